import PyProof.Rows.All
import PyProof.TableCode
import PyProof.ExcBaseAll.Exception
import PyProof.Rows.SortShellK
import KE.KSortTup
import Wide.FinOn
import OpenK.AllK
import Wide.All
import Lean
import PySem.Challenge.RW_nt0279_01
set_option Elab.async false
set_option maxRecDepth 100000
set_option maxHeartbeats 0
set_option linter.unusedVariables false
set_option genSizeOf false
set_option genInjectivity false
set_option tactic.hygienic false
namespace Mine
theorem pN{p:Prop}[Decidable p](h:decide p=true):p:=of_decide_eq_true h
theorem pZ{p:Prop}[Decidable p](h:decide p=false):¬p:=of_decide_eq_false h
theorem mT{c:Prop}{h:Decidable c}(k:¬c){α:Sort u}{t e:α}:ite c t e=e:=if_neg k
theorem mZ{c:Prop}{h:Decidable c}(k:c){α:Sort u}{t e:α}:ite c t e=t:=if_pos k
@[elab_as_elim]theorem rwl{α:Sort u}{a b:α}{P:α->Prop}(e:a=b)(h:P b):P a:=by cases e;exact h
@[elab_as_elim]theorem rwr{α:Sort u}{a b:α}{P:α->Prop}(e:b=a)(h:P b):P a:=by cases e;exact h
section
set_option compiler.extract_closed false
open Lean
def laD (n:Nat) (c:Char):Nat:=let c:=c.toNat;n*90+(c-35-(Nat.blt 64 c).toNat-(Nat.blt 92 c).toNat)
def laM (k:String) (t:Array Syntax):Syntax:=.node .none k.toName t
def laN (k:String) (t:Array Syntax):Syntax:=laM ("Lean.Parser.T"++k) t
def laA:Syntax:=mkAtom ""
def laQ (a:Array Syntax):Syntax:=laN "actic.tacticSeq" #[laN "actic.tacticSeq1Indented" #[mkNullNode a]]
def laB (t:Syntax):Syntax:=laN "erm.byTactic" #[laA,laQ #[t]]
def laK:Syntax:=laM "tacticKernel_rfl" #[laA]
def laE (k:String) (t:Syntax):Syntax:=laN k #[laA,t]
def laG (x:Syntax):Syntax:=laM "group" #[laA,laQ #[x]]
def laT (x s:Syntax):MacroM Syntax:=match s.isStrLit? with
 |none=>Macro.throwUnsupported
 |some s=>let n:=s.toList.foldl laD 0;pure (laB (bif n==0 then laE "actic.decide" (laN "actic.optConfig" #[mkNullNode])else bif n==1 then laK else bif n==2 then laE "actic.exact" (mkIdent `rfl)else laE "actic.exact" (laN "erm.app" #[mkIdent (.mkStr `Mine.LA ("u"++Nat.repr (n%8100))),mkNullNode (#[laM "rawNatLit" #[laA,Syntax.mkNatLit (n/8100)],laB laK]++x[2].getSepArgs)])))
def laR (r:Syntax):Syntax:=laN "actic.first" #[laA,mkNullNode #[laG (laE "actic.refine" (laN "erm.app" #[mkIdent (bif r[0].getNumArgs==0 then `Mine.rwl else `Mine.rwr),mkNullNode #[r[1],laE "erm.syntheticHole" (mkAtom "_")]])),laG (laN "actic.rewriteSeq" #[laA,laN "actic.optConfig" #[mkNullNode],laN "actic.rwRuleSeq" #[laA,mkNullNode #[r],laA],mkNullNode])]]
def laS (x:Syntax):MacroM Syntax:=if x[3].getNumArgs==0 then pure (laN "actic.paren" #[laA,laQ (mkSepArray ((x[2][1].getSepArgs.map laR).push (laE "actic.tacticTry_" (laQ #[laE "actic.withReducible" (laQ #[laN "actic.tacticRfl" #[laA]])]))) laA),laA]) else Macro.throwUnsupported
def laX (x:Syntax):MacroM Syntax:=if x.getPos?.isNone then Macro.throwUnsupported else let y:=x.rewriteBottomUp (·.setInfo .none);let y:=bif x[1].isOfKind `Lean.Parser.Command.definition&&x[0].getPos?.isNone then y.setArg 0 (y[0].setArg 4 (mkNullNode #[laM "Lean.Parser.Command.noncomputable" #[laA]]))else y;pure (bif (x.find? (·.isOfKind `Lean.Parser.Tactic.renameI)).isSome then laM "Lean.Parser.Command.in" #[laM "Lean.Parser.Command.set_option" #[laA,mkIdent `tactic.hygienic,mkNullNode,mkAtom "true"],laA,y]else y)
end
end Mine
section
local macro_rules (kind:=Lean.Parser.Command.declaration)|x=>Mine.laX x
section
open Bool renaming true→af,false→ag
open Option renaming map_eq_some_iff→ah,bind_eq_some_iff→aj,some→aq,none→aI
open Nat renaming le_of_ble_eq_true→ak,beq→aF,blt→aJ,div_add_mod→aK,ble_eq_true_of_le→aM,mod_lt→aO,le_of_lt→aP,succ_pos→aQ,zero_le→aR,lt_or_ge→aU,ble→aW
open Lean renaming RArray→am
open Classical renaming byContradiction→aw
open Int renaming mul_ediv_add_emod→az,emod_lt_of_pos→aG,emod_nonneg→aL,le_refl→aS,not_lt→aT,le_of_lt→aV
open List renaming mem_cons→aA,mem_append→aE,mem_singleton→aH
open Option.some renaming inj→aB
namespace Mine.LA
open Int.Internal.Linear (Expr Poly)
theorem Lo{α:Type}{x:α}{P:Prop}(h:aI=aq x):P:=by cases h
theorem Yq{P:Prop}(h:ag=af):P:=by cases h
theorem Wc{α:Type}{x:α}{P:Prop}(h:x∈([]:List α)):P:=by cases h
inductive T
 |v(i:Nat)
 |k(n:Nat)
 |a(x y:T)
 |s(x y:T)
 |m(x y:T)
 |c(x:T)
 |n(x:T)
inductive F
 |at(s:Bool)(o:Nat)(x y:T)
 |no(p:F)
 |bi(o:Nat)(p q:F)
 |fa
 |sp(o i j:Nat)(x y:T)(n:Nat)
def aN(o x y:Nat):Prop:=match o with
 |0=>x<=y
 |1=>x<y
 |_=>x=y
def A3(o:Nat)(x y:Int):Prop:=match o with
 |0=>x<=y
 |1=>x<y
 |_=>x=y
def b3(o:Nat)(p q:Prop):Prop:=match o with
 |0=>p/\q
 |1=>p∨q
 |_=>p->q
def gN:List Nat->Nat->Nat
 |[],_=>0
 |x::_,0=>x
 |_::r,i+1=>gN r i
def gI:List Int->Nat->Int
 |[],_=>0
 |x::_,0=>x
 |_::r,i+1=>gI r i
section
variable(ns:List Nat)(is:List Int)
def eN:T->Nat
 |.v i=>gN ns i
 |.k n=>n
 |.a x y=>eN x+eN y
 |.m x y=>eN x*eN y
 |_=>0
def eI:T->Int
 |.v i=>gI is i
 |.k n=>(n:Int)
 |.a x y=>eI x+eI y
 |.s x y=>eI x-eI y
 |.m x y=>eI x*eI y
 |.c x=>(eN ns x:Int)
 |.n x=> -eI x
def spP(o i j:Nat)(x y:T)(n:Nat):Prop:=match o with
 |0=>gN ns i=eN ns x-eN ns y
 |1=>gN ns i=eN ns x/n
 |2=>gN ns i=eN ns x % n/\gN ns j=eN ns x/n
 |3=>gN ns i=(eI ns is x).toNat
 |4=>gN ns i=min (eN ns x) (eN ns y)
 |5=>gI is i=eI ns is x/(n:Int)
 |_=>gI is i=eI ns is x % (n:Int)/\gI is j=eI ns is x/(n:Int)
def dF:F->Prop
 |.at s o x y=>bif s then aN o (eN ns x) (eN ns y)else A3 o (eI ns is x) (eI ns is y)
 |.no p=>¬dF p
 |.bi o p q=>b3 o (dF p) (dF q)
 |.fa=>False
 |.sp o i j x y n=>spP ns is o i j x y n
def exS(o i j:Nat)(x y:T)(n:Nat):F:=match o with
 |0=>.bi 1 (.bi 0 (.at af 0 y x) (.at af 2 (.a (.v i) y) x)) (.bi 0 (.at af 1 x y) (.at af 2 (.v i) (.k 0)))
 |1=>.bi 0 (.at af 0 (.m (.k (n+1)) (.v i)) x) (.at af 1 x (.a (.m (.k (n+1)) (.v i)) (.k (n+1))))
 |2=>.bi 0 (.at af 2 (.a (.m (.k (n+1)) (.v j)) (.v i)) x) (.at af 1 (.v i) (.k (n+1)))
 |3=>.bi 1 (.bi 0 (.at ag 0 (.k 0) x) (.at ag 2 (.c (.v i)) x)) (.bi 0 (.at ag 1 x (.k 0)) (.at af 2 (.v i) (.k 0)))
 |4=>.bi 1 (.bi 0 (.at af 0 x y) (.at af 2 (.v i) x)) (.bi 0 (.at af 1 y x) (.at af 2 (.v i) y))
 |5=>.bi 0 (.at ag 0 (.m (.k (n+1)) (.v i)) x) (.at ag 1 x (.a (.m (.k (n+1)) (.v i)) (.k (n+1))))
 |_=>.bi 0 (.at ag 2 (.a (.m (.k (n+1)) (.v j)) (.v i)) x) (.bi 0 (.at ag 0 (.k 0) (.v i)) (.at ag 1 (.v i) (.k (n+1))))
def ex:F->F
 |.sp o i j x y n=>bif aF o 0||aF o 3||aF o 4 then exS o i j x y 0 else match n with
  |0=>.sp o i j x y 0
  |n+1=>exS o i j x y n
 |f=>f
theorem x1(g a b:Nat)(h:g=a-b):(b<=a/\g+b=a)∨(a<b/\g=0):=by subst h;exact(aU a b).elim (λh=>.inr ⟨h,Nat.sub_eq_zero_of_le<|aP h⟩) λh=>.inl ⟨h,Nat.sub_add_cancel h⟩
theorem x2(g a n:Nat)(h:g=a/(n+1)):(n+1)*g<=a/\a<(n+1)*g+(n+1):=by subst h;exact⟨Nat.mul_div_le a<|n+1,Nat.lt_mul_div_succ a<|aQ n⟩
theorem x3(g k a n:Nat)(h:g=a % (n+1)/\k=a/(n+1)):(n+1)*k+g=a/\g<n+1:=by rw[h.1,h.2];exact⟨aK _ _,aO _<|aQ n⟩
theorem x4(g:Nat)(x:Int)(h:g=x.toNat):(((0:Nat):Int)<=x/\(g:Int)=x)∨(x<((0:Nat):Int)/\g=0):=by subst h;exact(Int.lt_or_le x 0).elim (λh=>.inr ⟨h,Int.toNat_of_nonpos<|aV h⟩) λh=>.inl ⟨h,Int.toNat_of_nonneg h⟩
theorem x5(g a b:Nat)(h:g=min a b):(a<=b/\g=a)∨(b<a/\g=b):=by subst h;exact(aU b a).elim (λh=>.inr ⟨h,Nat.min_eq_right<|aP h⟩) λh=>.inl ⟨h,Nat.min_eq_left h⟩
theorem x7(g k x:Int)(n:Nat)(h:g=x % ((n+1:Nat):Int)/\k=x/((n+1:Nat):Int)):((n+1:Nat):Int)*k+g=x/\((0:Nat):Int)<=g/\g<((n+1:Nat):Int):=by rw[h.1,h.2];exact⟨az _ _,aL _<|Int.natCast_ne_zero.mpr<|Nat.succ_ne_zero n,aG _<|Int.natCast_pos.mpr<|aQ n⟩
theorem x6(g x:Int)(n:Nat)(h:g=x/((n+1:Nat):Int)):((n+1:Nat):Int)*g<=x/\x<((n+1:Nat):Int)*g+((n+1:Nat):Int):=by have q:=x7 (x % ((n+1:Nat):Int)) g x n ⟨rfl,h⟩;generalize((n+1:Nat):Int)*g=z at q⊢;generalize x % ((n+1:Nat):Int)=w at q⊢;omega
theorem Wd{f:F}(h:dF ns is f):dF ns is (ex f):=by
 cases f with
 |sp o i j x y n=>
  rcases o with _|_|_|_|_|_|o
  .exact x1 _ _ _ h
  .cases n with
   |zero=>exact h
   |succ n=>exact x2 _ _ _ h
  .cases n with
   |zero=>exact h
   |succ n=>exact x3 _ _ _ _ h
  .exact x4 _ _ h
  .exact x5 _ _ _ h
  .cases n with
   |zero=>exact h
   |succ n=>exact x6 _ _ _ h
  .cases n with
   |zero=>exact h
   |succ n=>exact x7 _ _ _ _ h
 |_=>exact h
def dS:List F->F->Prop
 |[],g=>dF ns is g
 |h::r,g=>dF ns is h->dS r g
end
def xv(ns:List Nat)(is:List Int)(j:Nat):Int:=bif aJ j 32 then(gN ns j:Int)else gI is<|j-32
def ra(f:Nat->Int):Nat->Nat->am Int
 |0,j=>.leaf (f j)
 |n+1,j=>.branch (j+1) (.leaf (f j)) (ra f n<|j+1)
theorem Ik(f:Nat->Int)(n:Nat):∀j k,j<=k->k<=j+n->(ra f n j).get k=f k:=by
 induction n with
 |zero=>intro j k h1 h2;rw[Nat.le_antisymm h1 h2];rfl
 |succ n ih=>
  intro j k h1 h2;show(Bool.rec ((Lean.RArray.leaf<|f j).get k) ((ra f n<|j+1).get k) ((j+1).ble k):Int)=f k;cases e:(j+1).ble k with
  |true=>exact ih _ _ (ak e) (by omega)
  |false=>
   have:¬j+1<=k:=λq=>by rw[aM q]at e;cases e
   rw[show k=j by omega]
def o2(f:Expr->Expr->Expr)(x y:Option Expr):Option Expr:=x.bind λa=>y.map<|f a
inductive O2(f:Expr->Expr->Expr)(x y:Option Expr)(e:Expr):Prop
 |mk(a b:Expr)(ha:x=aq a)(hb:y=aq b)(he:f a b=e)
theorem NJ{f:Expr->Expr->Expr}{x y:Option Expr}{e:Expr}(h:o2 f x y=aq e):O2 f x y e:=by
 cases x with
 |none=>exact Lo h
 |some a=>cases y with
  |none=>exact Lo h
  |some b=>exact⟨a,b,rfl,rfl,aB h⟩
def TM:T->Option Nat
 |.k n=>aq n
 |_=>aI
def muK(a b:Option Nat)(x y:Option Expr):Option Expr:=match a with
 |some n=>y.map (.mulL n)
 |none=>match b with
  |some n=>x.map λe=>.mulR e n
  |none=>aI
def Lp:Bool->T->Option Expr
 |s,.v i=>bif aJ i 32 then aq (.var (bif s then i else i+32))else aI
 |_,.k n=>aq (.num n)
 |s,.a x y=>o2 .add (Lp s x) (Lp s y)
 |s,.s x y=>bif s then aI else o2 .sub (Lp s x) (Lp s y)
 |s,.m x y=>muK (TM x) (TM y) (Lp s x) (Lp s y)
 |s,.c x=>bif s then aI else Lp af x
 |s,.n x=>bif s then aI else(Lp s x).map .neg
section
variable(ns:List Nat)(is:List Int)
def ctx:am Int:=ra (xv ns is) 63 0
def ev(s:Bool)(t:T):Int:=bif s then(eN ns t:Int)else eI ns is t
theorem Y2(s:Bool)(x y:T):ev ns is s (.a x y)=ev ns is s x+ev ns is s y:=by cases s<;>rfl
theorem Y3(s:Bool)(x y:T):ev ns is s (.m x y)=ev ns is s x*ev ns is s y:=by cases s<;>rfl
theorem NK{t:T}{n:Nat}(h:TM t=aq n)(s:Bool):ev ns is s t=n:=by cases t<;>first|(cases h;cases s<;>rfl)|exact Lo h
theorem NN(t:T):∀s e,Lp s t=aq e->e.denote (ctx ns is)=ev ns is s t:=by
 induction t with
 |v i=>
  intro s e h;have h:(bif aJ i 32 then aq (Expr.var<|bif s then i else i+32)else aI)=aq e:=h;cases q:aJ i 32 with
  |false=>rw[q]at h;exact Lo h
  |true=>
   rw[q]at h;have lt:i<32:=ak q;obtain rfl:=aB h;cases s with
   |true=>
    refine(Ik (xv ns is) 63 0 i (aR _) (by omega)).trans ?_;show(bif aJ i 32 then _ else _)=_;rw[q];rfl
   |false=>
    refine(Ik (xv ns is) 63 0 (i+32) (aR _) (by omega)).trans ?_;have b:aJ (i+32) 32=ag:=Bool.eq_false_iff.mpr λz=>by have:=ak z;omega
    show(bif aJ (i+32) 32 then _ else _)=_;rw[b,Nat.add_sub_cancel];rfl
 |k n=>intro s e h;obtain rfl:=aB h;cases s<;>rfl
 |a x y h1 h2=>
  intro s e h;obtain⟨a,b,ha,hb,rfl⟩:=NJ h;rw[Y2,<-h1 s a ha,<-h2 s b hb];rfl
 |s x y h1 h2=>
  intro s e h;cases s with
  |true=>exact Lo h
  |false=>
   obtain⟨a,b,ha,hb,rfl⟩:=NJ h;show _=ev ns is ag x-ev ns is ag y;rw[<-h1 _ a ha,<-h2 _ b hb];rfl
 |m x y h1 h2=>
  intro s e h;have h:muK (TM x) (TM y) (Lp s x) (Lp s y)=aq e:=h;rw[Y3];cases q:TM x with
  |some n=>
   rw[q]at h;obtain⟨b,hb,rfl⟩:=ah.mp h;rw[NK ns is q,<-h2 s b hb];rfl
  |none=>
   rw[q]at h;cases q2:TM y with
   |some n=>
    rw[q2]at h;obtain⟨b,hb,rfl⟩:=ah.mp h;rw[NK ns is q2,<-h1 s b hb];rfl
   |none=>rw[q2]at h;exact Lo h
 |c x h1=>
  intro s e h;cases s with
  |true=>exact Lo h
  |false=>exact h1 af e h
 |n x h1=>
  intro s e h;cases s with
  |true=>exact Lo h
  |false=>
   obtain⟨b,hb,rfl⟩:=ah.mp h;show _= -ev ns is ag x;rw[<-h1 _ b hb];rfl
end
structure C where
 e:Bool
 p:Poly
abbrev D:=List<|List C
structure Sat(x:am Int)(r:C):Prop where
 le:r.p.denote x<=0
 eq:r.e=af->r.p.denote x=0
def Lq(x:am Int)(cs:List C):Prop:=∀r∈cs,Sat x r
inductive ds(x:am Int)(d:D):Prop
 |mk(a:List C)(m:a∈d)(h:Lq x a)
def row(e s:Bool)(k:Int)(x y:T):Option D:=(o2 (λa b=>.add (.sub a b) (.num k)) (Lp s x)<|Lp s y).map λq=>[[⟨e,q.norm⟩]]
def app(d d':Option D):Option D:=d.bind λa=>d'.map λb=>a++b
def Kt(d d':Option D):Option D:=d.bind λa=>d'.map λb=>a.flatMap λx=>b.map λy=>x++y
def at3(o:Nat)(s:Bool)(x y:T)(b:Bool):Option D:=match o with
 |0=>bif b then row ag s 0 x y else row ag s 1 y x
 |1=>bif b then row ag s 1 x y else row ag s 0 y x
 |_=>bif b then row af s 0 x y else app (row ag s 1 x y)<|row ag s 1 y x
def dbi(o:Nat)(b:Bool)(p q:Bool->Option D):Option D:=match o with
 |0=>bif b then Kt (p af) (q af)else app (p ag) (q ag)
 |1=>bif b then app (p af) (q af)else Kt (p ag) (q ag)
 |_=>bif b then app (p ag) (q af)else Kt (p af)<|q ag
def dn:F->Bool->Option D
 |.at s o x y,b=>at3 o s x y b
 |.no p,b=>dn p (!b)
 |.bi o p q,b=>dbi o b (dn p) (dn q)
 |.fa,b=>aq (bif b then[]else[[]])
 |.sp ..,_=>aI
section
variable{ns:List Nat}{is:List Int}{x:am Int}{d d':Option D}{a:D}
theorem xf{e s:Bool}{k:Int}{t u:T}(h:row e s k t u=aq a)(l:ev ns is s t-ev ns is s u+k<=0)(q:e=af->ev ns is s t-ev ns is s u+k=0):ds (ctx ns is) a:=by
 obtain⟨z,hz,rfl⟩:=ah.mp h;obtain⟨b,c,hb,hc,rfl⟩:=NJ hz;have v:(Expr.add (.sub b c)<|.num k).norm.denote (ctx ns is)=ev ns is s t-ev ns is s u+k:=by rw[Expr.denote_norm,<-NN ns is t s b hb,<-NN ns is u s c hc];rfl
 exact⟨_,.head _,λr m=>by rw[aH.mp m];exact⟨v▸l,λz=>v▸q z⟩⟩
theorem sO(h:app d d'=aq a)(k:(∀e,d=aq e->ds x e)∨(∀e,d'=aq e->ds x e)):ds x a:=by
 obtain⟨b,hb,h⟩:=aj.mp h;obtain⟨c,hc,rfl⟩:=ah.mp h;rcases k with k|k
 .obtain⟨y,m,k⟩:=k b hb;exact⟨y,List.mem_append_left _ m,k⟩
 .obtain⟨y,m,k⟩:=k c hc;exact⟨y,List.mem_append_right _ m,k⟩
theorem Be(h:Kt d d'=aq a)(k:∀e,d=aq e->ds x e)(k':∀e,d'=aq e->ds x e):ds x a:=by obtain⟨b,hb,h⟩:=aj.mp h;obtain⟨c,hc,rfl⟩:=ah.mp h;obtain⟨y,m,k⟩:=k b hb;obtain⟨z,m',k'⟩:=k' c hc;exact⟨y++z,List.mem_flatMap.mpr ⟨y,m,List.mem_map_of_mem m'⟩,λr q=>(aE.mp q).elim (k r) (k' r)⟩
def Yr(b:Bool)(P:Prop):Prop:=bif b then P else¬P
theorem r1{x y:Int}(h:x<=y):x-y+0<=0:=by rw[Int.add_zero];exact Int.sub_nonpos_of_le h
theorem r2{x y:Int}(h:¬x<=y):y-x+1<=0:=Int.add_one_le_of_lt<|Int.sub_neg_of_lt<|Int.not_le.mp h
theorem r3{x y:Int}(h:x<y):x-y+1<=0:=Int.add_one_le_of_lt<|Int.sub_neg_of_lt h
theorem r4{x y:Int}(h:¬x<y):y-x+0<=0:=r1<|aT.mp h
theorem r5{x y:Int}(h:x=y):x-y+0=0:=by subst h;rw[Int.sub_self];rfl
theorem F8{o:Nat}{s b:Bool}{t u:T}(h:at3 o s t u b=aq a)(k:Yr b<|A3 o (ev ns is s t)<|ev ns is s u):ds (ctx ns is) a:=by
 have no:∀{P:Prop},ag=af->P:=λh=>Yq h;cases o with
 |zero=>cases b with
  |true=>exact xf h (r1 k) no
  |false=>exact xf h (r2 k) no
 |succ o=>cases o with
  |zero=>cases b with
   |true=>exact xf h (r3 k) no
   |false=>exact xf h (r4 k) no
  |succ o=>cases b with
   |true=>exact xf h (Int.le_of_eq<|r5 k) λ_=>r5 k
   |false=>
    rcases Int.lt_trichotomy (ev ns is s t) (ev ns is s u)with c|c|c
    .exact sO h<|.inl λe q=>xf q (r3 c) no
    .exact(k c).elim
    .exact sO h<|.inr λe q=>xf q (r3 c) no
theorem QX{b:Bool}{P Q:Prop}(h:P↔Q)(k:Yr b P):Yr b Q:=by
 cases b with
 |true=>exact h.mp k
 |false=>exact λq=>k<|h.mpr q
theorem TN(o x y:Nat):aN o x y↔A3 o (x:Int) (y:Int):=by
 rcases o with _|_|o
 .exact Int.ofNat_le.symm
 .exact Int.ofNat_lt.symm
 .exact Int.ofNat_inj.symm
theorem SU(f:F):∀b d,dn f b=aq d->Yr b (dF ns is f)->ds (ctx ns is) d:=by
 induction f with
 |«at» s o x y=>
  intro b d h k;cases s with
  |false=>exact F8 (s:=ag) h k
  |true=>exact F8 h (QX (TN o _ _) k)
 |no p ih=>
  intro b d h k;cases b with
  |true=>exact ih ag d h k
  |false=>exact ih af d h (aw λc=>k c)
 |bi o p q h1 h2=>
  intro b d h k;rcases o with _|_|o
  .cases b with
   |true=>exact Be h (λe h=>h1 _ e h k.1) λe h=>h2 _ e h k.2
   |false=>
    by_cases c:dF ns is p
    .exact sO h<|.inr λe h=>h2 _ e h λq=>k ⟨c,q⟩
    .exact sO h<|.inl λe h=>h1 _ e h c
  .cases b with
   |true=>exact sO h (k.imp (λk e h=>h1 _ e h k) λk e h=>h2 _ e h k)
   |false=>exact Be h (λe h=>h1 _ e h λc=>k<|.inl c) λe h=>h2 _ e h λc=>k<|.inr c
  .cases b with
   |true=>
    by_cases c:dF ns is p
    .exact sO h<|.inr λe h=>h2 _ e h<|k c
    .exact sO h (.inl λe h=>h1 _ e h c)
   |false=>exact Be h (λe h=>h1 _ e h<|aw λc=>k λq=>(c q).elim) λe h=>h2 _ e h λq=>k λ_=>q
 |fa=>
  intro b d h k;cases b with
  |true=>exact False.elim k
  |false=>obtain rfl:=aB h;exact⟨[],.head _,λ_ m=>Wc m⟩
 |sp=>exact λb d h=>Lo h
end
def pI(c:Nat):Int×Nat:=match c % 2 with
 |0=>(0,c/2)
 |_=>match c/2 % 2 with
  |0=>(1,c/4)
  |_=>match c/4 % 2 with
   |0=>((c/128 % 2^(c/8 % 16):Nat),c/128/2^(c/8 % 16))
   |_=>(-(c/128 % 2^(c/8 % 16):Nat),c/128/2^(c/8 % 16))
def comb:List C->Poly->Nat->Option (Poly×Nat)
 |[],p,c=>aq (p,c)
 |r::rs,p,c=>bif r.e||decide (0<=(pI c).1)then comb rs (p.combine<|r.p.mul (pI c).1) (pI c).2 else aI
theorem Ku{x:am Int}(cs:List C):∀p c p' c',comb cs p c=aq (p',c')->Lq x cs->p.denote x<=0->p'.denote x<=0:=by
 induction cs with
 |nil=>intro p c p' c' h _ k;cases h;exact k
 |cons r rs ih=>
  intro p c p' c' h s k;have h:(bif r.e||decide (0<=(pI c).1)then comb rs (p.combine<|r.p.mul (pI c).1) (pI c).2 else aI)=aq (p',c'):=h;generalize(pI c).1=q at h;cases e:r.e||decide (0<=q)with
  |false=>rw[e]at h;exact Lo h
  |true=>
   rw[e]at h;refine ih _ _ _ _ h (λy m=>s y<|.tail _ m) ?_;obtain⟨s1,s2⟩:=s r<|.head _;rw[Poly.denote_combine,Poly.denote_mul];have z:q*r.p.denote x<=0:=by
    cases e2:r.e with
    |true=>rw[s2 e2,Int.mul_zero];exact aS 0
    |false=>rw[e2]at e;exact Int.mul_nonpos_of_nonneg_of_nonpos (pN e) s1
   exact Int.add_le_add k z
def unsat:Poly->Bool
 |.num k=>decide (0<k)
 |_=>ag
def leaf:Nat->List C->Nat->Option Nat
 |0,cs,c=>(comb cs (.num 0) c).bind λr=>bif unsat r.1 then aq r.2 else aI
 |n+1,cs,c=>(comb cs (.num 0) c).bind λr=>bif decide (0<r.1.gcdCoeffs 0)&&r.1.divCoeffs (r.1.gcdCoeffs 0)then leaf n (⟨ag,r.1.div<|r.1.gcdCoeffs 0⟩::cs) r.2 else aI
theorem NO{x:am Int}{p:Poly}(h:unsat p=af)(k:p.denote x<=0):False:=by
 cases p with
 |num n=>exact aT.mpr k (pN h)
 |add _ _ _=>exact Yq h
theorem TO{x:am Int}{p:Poly}{g:Int}(h:(decide (0<g)&&p.divCoeffs g)=af)(k:p.denote x<=0):(p.div g).denote x<=0:=by rw[Bool.and_eq_true]at h;have g0:=pN h.1;have e:=Poly.denote_div_eq_of_divCoeffs x p g h.2;have c:=Int.Internal.Linear.cmod_gt_of_pos p.getConst g0;generalize(p.div g).denote x=z at e⊢;refine aT.mp λq=>?_;have:=Int.mul_le_mul_of_nonneg_right (Int.add_one_le_of_lt q)<|aV g0;omega
theorem Kv{x:am Int}(n:Nat):∀cs c c',leaf n cs c=aq c'->¬Lq x cs:=by
 induction n with
 |zero=>
  intro cs c c' h s;obtain⟨⟨p,d⟩,e,h⟩:=aj.mp h;have u:=Ku cs _ _ _ _ e s<|aS 0;have h:(bif unsat p then aq d else aI)=aq c':=h;cases b:unsat p with
  |false=>rw[b]at h;exact Lo h
  |true=>exact NO b u
 |succ n ih=>
  intro cs c c' h s;obtain⟨⟨p,d⟩,e,h⟩:=aj.mp h;have u:=Ku cs _ _ _ _ e s<|aS 0;have h:(bif decide (0<p.gcdCoeffs 0)&&p.divCoeffs (p.gcdCoeffs 0)then leaf n (⟨ag,p.div<|p.gcdCoeffs 0⟩::cs) d else aI)=aq c':=h;generalize p.gcdCoeffs 0=g at h;cases b:decide (0<g)&&p.divCoeffs g with
  |false=>rw[b]at h;exact Lo h
  |true=>
   rw[b]at h;refine ih _ _ _ h λr m=>?_;rcases aA.mp m with rfl|m
   .exact⟨TO b u,λz=>Yq z⟩
   .exact s r m
def each(k:List C->Nat->Option Nat):List (List C)->Option Nat->Option Nat
 |[],c=>c
 |a::d,c=>each k d<|c.bind<|k a
theorem QY{k:List C->Nat->Option Nat}(d:List<|List C):∀o c',each k d o=aq c'->(∃c,o=aq c)/\∀a∈d,∃c c2,k a c=aq c2:=by
 induction d with
 |nil=>exact λo c' h=>⟨⟨c',h⟩,λa m=>Wc m⟩
 |cons b d ih=>
  intro o c' h;obtain⟨⟨c2,e⟩,i⟩:=ih _ _ h;obtain⟨c,e1,e2⟩:=aj.mp e;exact⟨⟨c,e1⟩,λa m=>by
   rcases aA.mp m with rfl|m
   .exact⟨c,c2,e2⟩
   .exact i a m⟩
def run:List D->List C->Nat->Option Nat
 |[],cs,c=>bif aF (c % 2) 0 then aI else leaf (c/2 % 4) cs (c/8)
 |d::r,cs,c=>bif aF (c % 2) 0 then each (λa c=>run r (a++cs) c) d (aq<|c/2)else leaf (c/2 % 4) cs<|c/8
theorem Bf{x:am Int}(l:List D):∀cs c c',run l cs c=aq c'->(∀e∈l,ds x e)->¬Lq x cs:=by
 induction l with
 |nil=>
  intro cs c c' h _ s;have h:(bif aF (c % 2) 0 then aI else leaf (c/2 % 4) cs<|c/8)=aq c':=h;cases b:aF (c % 2) 0 with
  |true=>rw[b]at h;exact Lo h
  |false=>rw[b]at h;exact Kv _ _ _ _ h s
 |cons d r ih=>
  intro cs c c' h k s;have h:(bif aF (c % 2) 0 then each (λa c=>run r (a++cs) c) d (aq<|c/2)else leaf (c/2 % 4) cs<|c/8)=aq c':=h;cases b:aF (c % 2) 0 with
  |true=>
   rw[b]at h;obtain⟨a,m,ka⟩:=k d<|.head _;obtain⟨c1,c2,e⟩:=(QY d _ _ h).2 a m;exact ih _ _ _ e (λe m=>k e<|.tail _ m) λs' m=>(aE.mp m).elim (ka s') (s s')
  |false=>rw[b]at h;exact Kv _ _ _ _ h s
def Y4:List F->F->Option (List D)
 |[],g=>(dn g ag).map λd=>[d]
 |h::r,g=>(dn (ex h) af).bind λd=>(Y4 r g).map λe=>d::e
def pos:Nat->List C
 |0=>[]
 |m+1=>⟨ag,.add (-1) m (.num 0)⟩::pos m
def QZ:List D->List C
 |[]=>[]
 |d::r=>match d with
  |[a]=>a++QZ r
  |_=>QZ r
def lH:List D->List D
 |[]=>[]
 |d::r=>match d with
  |[_]=>lH r
  |_=>d::lH r
theorem Q0{x:am Int}(l:List D)(h:∀e∈l,ds x e):Lq x (QZ l)/\∀e∈lH l,ds x e:=by
 induction l with
 |nil=>exact⟨λ_ m=>Wc m,λ_ m=>Wc m⟩
 |cons d r ih=>
  obtain⟨i1,i2⟩:=ih λe m=>h e<|.tail _ m;have hd:=h d<|.head _;have all:∀e∈d::lH r,ds x e:=λe m=>by
   rcases aA.mp m with q|m
   .rw[q];exact hd
   .exact i2 e m
  cases d with
  |nil=>exact⟨i1,all⟩
  |cons a t=>cases t with
   |nil=>
    obtain⟨b,m,k⟩:=hd;rw[aH.mp m]at k;exact⟨λs m=>(aE.mp m).elim (k s) (i1 s),i2⟩
   |cons b c=>exact⟨i1,all⟩
theorem TP(ns:List Nat)(is:List Int)(m:Nat)(l:m<=32):Lq (ctx ns is) (pos m):=by
 induction m with
 |zero=>exact λ_ m=>Wc m
 |succ m ih=>
  intro r q;rcases aA.mp q with rfl|q
  .refine⟨?_,λz=>Yq z⟩;have g:(ctx ns is).get m=(gN ns m:Int):=(Ik (xv ns is) 63 0 m (aR _) (by omega)).trans (by
    show(bif aJ m 32 then _ else _)=_;rw[show aJ m 32=af from aM l];rfl)
   show -1*(ctx ns is).get m+0<=0;rw[g];omega
  .exact ih (Nat.le_of_succ_le l) r q
theorem TQ(ns:List Nat)(is:List Int)(hs:List F):∀g d,Y4 hs g=aq d->((∀e∈d,ds (ctx ns is) e)->False)->dS ns is hs g:=by
 induction hs with
 |nil=>
  intro g d h k;obtain⟨u,e,rfl⟩:=ah.mp h;exact aw λc=>k λe' q=>by rw[aH.mp q];exact SU g ag u e c
 |cons f r ih=>
  intro g d h k hf;obtain⟨u,e,h⟩:=aj.mp h;obtain⟨v,e2,rfl⟩:=ah.mp h;exact ih _ _ e2 λkv=>k λe' q=>by
   rcases aA.mp q with q|q
   .rw[q];exact SU (ex f) af u e<|Wd ns is hf
   .exact kv e' q
def check(m:Nat)(hs:List F)(g:F)(c:Nat):Bool:=((Y4 hs g).bind λd=>run (lH d) (QZ d++pos (m % 32)) c).isSome
theorem sound(m:Nat)(hs:List F)(g:F)(c:Nat)(ns:List Nat)(is:List Int)(h:check m hs g c=af):dS ns is hs g:=by obtain⟨c',e'⟩:=Option.isSome_iff_exists.mp h;obtain⟨d,e,e'⟩:=aj.mp e';refine TQ ns is hs g d e λk=>?_;obtain⟨k1,k2⟩:=Q0 d k;exact Bf _ _ _ _ e' k2 λs q=>(aE.mp q).elim (k1 s) (TP ns is _ (aP<|aO _ (by decide)) s)
end Mine.LA
namespace Mine.LA
def pT:Nat->Nat->T×Nat
 |0,c=>(.k 0,c)
 |f+1,c=>match c % 8 with
  |0=>(.v (c/8 % 32),c/256)
  |1=>(.k (c/8 % 32),c/256)
  |2=>(.k (c/1024 % 2^(c/8 % 128)),c/1024/2^(c/8 % 128))
  |3=>match pT f (c/8)with
   |(x,c)=>match pT f c with
    |(y,c)=>(.a x y,c)
  |4=>match pT f (c/8)with
   |(x,c)=>match pT f c with
    |(y,c)=>(.s x y,c)
  |5=>match pT f (c/8)with
   |(x,c)=>match pT f c with
    |(y,c)=>(.m x y,c)
  |6=>match pT f (c/8)with
   |(x,c)=>(.c x,c)
  |_=>match pT f (c/8)with
   |(x,c)=>(.n x,c)
def p2(k:T->T->F)(c:Nat):F×Nat:=match pT 20 c with
 |(x,c)=>match pT 20 c with
  |(y,c)=>(k x y,c)
def pF:Nat->Nat->F×Nat
 |0,c=>(.fa,c)
 |f+1,c=>match c % 16 with
  |0=>p2 (.at af 0) (c/16)
  |1=>p2 (.at af 1) (c/16)
  |2=>p2 (.at af 2) (c/16)
  |3=>p2 (.at ag 0) (c/16)
  |4=>p2 (.at ag 1) (c/16)
  |5=>p2 (.at ag 2) (c/16)
  |6=>match pF f (c/16)with
   |(x,c)=>(.no x,c)
  |7=>match pF f (c/16)with
   |(x,c)=>match pF f c with
    |(y,c)=>(.bi 0 x y,c)
  |8=>match pF f (c/16)with
   |(x,c)=>match pF f c with
    |(y,c)=>(.bi 1 x y,c)
  |9=>match pF f (c/16)with
   |(x,c)=>match pF f c with
    |(y,c)=>(.bi 2 x y,c)
  |10=>(.fa,c/16)
  |11=>match pT 20 (c/512)with
   |(x,d)=>match pT 20 d with
    |(y,d)=>(.sp 0 (c/16 % 32) 0 x y 0,d)
  |12=>match pT 20 (c/512)with
   |(x,d)=>(.sp 1 (c/16 % 32) 0 x x (d % 1024),d/1024)
  |13=>match pT 20 (c/32768)with
   |(x,d)=>(.sp (bif aF (c/16 % 2) 0 then 2 else 6) (c/32 % 32) (c/1024 % 32) x x (d % 1024),d/1024)
  |14=>match c/16 % 2 with
   |0=>match pT 20 (c/1024)with
    |(x,d)=>(.sp 3 (c/32 % 32) 0 x x 0,d)
   |_=>match pT 20 (c/1024)with
    |(x,d)=>match pT 20 d with
     |(y,d)=>(.sp 4 (c/32 % 32) 0 x y 0,d)
  |_=>match pT 20 (c/512)with
   |(x,d)=>(.sp 5 (c/16 % 32) 0 x x (d % 1024),d/1024)
def pS:Nat->Nat->List F×Nat
 |0,c=>([],c)
 |f+1,c=>match pF 8 c with
  |(x,c)=>match pS f c with
   |(r,c)=>(x::r,c)
def dec(N:Nat):List F×F×Nat:=match pS (N/32 % 16) (N/512)with
 |(hs,c)=>(hs,pF 8 c)
def ok(N:Nat):Bool:=check (N % 32) (dec N).1 (dec N).2.1 (dec N).2.2
def den(N:Nat)(ns:List Nat)(is:List Int):Prop:=dS ns is (dec N).1 (dec N).2.1
theorem oF{N:Nat}(h:ok N=af)(ns:List Nat)(is:List Int):den N ns is:=sound _ _ _ _ ns is h
end Mine.LA
namespace Mine.LA
theorem sb(a b:Nat):(b<=a/\a-b+b=a)∨(a<b/\a-b=0):=x1 _ _ _ rfl
theorem tn(x:Int):(0<=x/\(x.toNat:Int)=x)∨(x<0/\x.toNat=0):=x4 _ _ rfl
theorem dv(n:Nat)(a:Nat)(h:aW 1 n=af):n*(a/n)<=a/\a<n*(a/n)+n:=by have h:=ak h;have:=aK a n;have:=aO a (y:=n) (by omega);omega
theorem md(n:Nat)(a:Nat)(h:aW 1 n=af):n*(a/n)+a % n=a/\a % n<n:=⟨aK a n,aO _<|ak h⟩
theorem mn(a b:Nat):(a<=b/\min a b=a)∨(b<a/\min a b=b):=x5 _ _ _ rfl
theorem dvI(n:Nat)(x:Int)(h:aW 1 n=af):(n:Int)*(x/(n:Int))<=x/\x<(n:Int)*(x/(n:Int))+(n:Int):=by have h:=ak h;have:=az x n;have:=aL x (b:=n) (by omega);have:=aG x (b:=n) (by omega);omega
theorem mdI(n:Nat)(x:Int)(h:aW 1 n=af):(n:Int)*(x/(n:Int))+x % (n:Int)=x/\0<=x % (n:Int)/\x % (n:Int)<(n:Int):=by have h:=ak h;exact⟨az x n,aL x (by omega),aG x (by omega)⟩
theorem mp{ns:List Nat}{is:List Int}{i j x n:Nat}{t y:T}(h1:gN ns i=x % n)(h2:gN ns j=x/n)(h:x=eN ns t):dF ns is (.sp 2 i j t y n):=by subst h;exact⟨h1,h2⟩
theorem mq{ns:List Nat}{is:List Int}{i j n:Nat}{x:Int}{t y:T}(h1:gI is i=x % (n:Int))(h2:gI is j=x/(n:Int))(h:x=eI ns is t):dF ns is (.sp 6 i j t y n):=by subst h;exact⟨h1,h2⟩
end Mine.LA
namespace Mine.LA
theorem u0(N:Nat)(h:ok N=af):den N [] []:=oF h _ _
theorem u1(N:Nat)(h:ok N=af){u:Int}:den N [] [u]:=oF h _ _
theorem u2(N:Nat)(h:ok N=af){u v:Int}:den N [] [u,v]:=oF h _ _
theorem u3(N:Nat)(h:ok N=af){u v w:Int}:den N [] [u,v,w]:=oF h _ _
theorem u4(N:Nat)(h:ok N=af){u v w z:Int}:den N [] [u,v,w,z]:=oF h _ _
theorem u90(N:Nat)(h:ok N=af){a:Nat}:den N [a] []:=oF h _ _
theorem u91(N:Nat)(h:ok N=af){a:Nat}{u:Int}:den N [a] [u]:=oF h _ _
theorem u92(N:Nat)(h:ok N=af){a:Nat}{u v:Int}:den N [a] [u,v]:=oF h _ _
theorem u93(N:Nat)(h:ok N=af){a:Nat}{u v w:Int}:den N [a] [u,v,w]:=oF h _ _
theorem u180(N:Nat)(h:ok N=af){a b:Nat}:den N [a,b] []:=oF h _ _
theorem u181(N:Nat)(h:ok N=af){a b:Nat}{u:Int}:den N [a,b] [u]:=oF h _ _
theorem u182(N:Nat)(h:ok N=af){a b:Nat}{u v:Int}:den N [a,b] [u,v]:=oF h _ _
theorem u183(N:Nat)(h:ok N=af){a b:Nat}{u v w:Int}:den N [a,b] [u,v,w]:=oF h _ _
theorem u270(N:Nat)(h:ok N=af){a b c:Nat}:den N [a,b,c] []:=oF h _ _
theorem u271(N:Nat)(h:ok N=af){a b c:Nat}{u:Int}:den N [a,b,c] [u]:=oF h _ _
theorem u272(N:Nat)(h:ok N=af){a b c:Nat}{u v:Int}:den N [a,b,c] [u,v]:=oF h _ _
theorem u360(N:Nat)(h:ok N=af){a b c d:Nat}:den N [a,b,c,d] []:=oF h _ _
theorem u361(N:Nat)(h:ok N=af){a b c d:Nat}{u:Int}:den N [a,b,c,d] [u]:=oF h _ _
theorem u362(N:Nat)(h:ok N=af){a b c d:Nat}{u v:Int}:den N [a,b,c,d] [u,v]:=oF h _ _
theorem u450(N:Nat)(h:ok N=af){a b c d e:Nat}:den N [a,b,c,d,e] []:=oF h _ _
theorem u540(N:Nat)(h:ok N=af){a b c d e f:Nat}:den N [a,b,c,d,e,f] []:=oF h _ _
theorem u630(N:Nat)(h:ok N=af){a b c d e f g:Nat}:den N [a,b,c,d,e,f,g] []:=oF h _ _
theorem u720(N:Nat)(h:ok N=af){a b c d e f g i:Nat}:den N [a,b,c,d,e,f,g,i] []:=oF h _ _
theorem u810(N:Nat)(h:ok N=af){a b c d e f g i j:Nat}:den N [a,b,c,d,e,f,g,i,j] []:=oF h _ _
theorem u990(N:Nat)(h:ok N=af){a b c d e f g i j k l:Nat}:den N [a,b,c,d,e,f,g,i,j,k,l] []:=oF h _ _
theorem u1080(N:Nat)(h:ok N=af){a b c d e f g i j k l m:Nat}:den N [a,b,c,d,e,f,g,i,j,k,l,m] []:=oF h _ _
end Mine.LA
end
local macro_rules (kind:=Lean.Parser.Term.paren)|x=>Mine.laT x x[1]
local macro_rules (kind:=Lean.Parser.Term.tuple)|x=>Mine.laT x[1] x[1][0]
section
open List renaming contains_cons→aX
open PySem PySem.W PySem.Calls PySem.SeqAt
open PySem.Sem (wp)
namespace Mine
section
variable{nm q:Str}{C N:Addr}{bs bm:List Value}{Il:Bool}{sn:List Str}{sub:List Value}{ab:Bool}{col:Option Bool}{dd:Option Addr}{k0 k1 k2 k3 k5:Option Value}
theorem Im{M:Model}{A:Around}{E:Value->Shared->Prop}{h:Heap}{g:Array GenState}{d:Drawn}{t:Nat}{os:OsState}(hB:bm.contains (.type "Exception")=true){lS:List Value}{Q:Unit->Shared->Prop}(hC:h.get? C=some (excClassObj nm q C N bs bm Il sn sub ab col dd k0 k1 k2 k3 k5 "Exception.__new__"))
  (hq:Q () ⟨h,g,d,t,os⟩):wpAny M A (checkBuiltinCall "Exception.__new__" ⟨.ref C::lS,[]⟩) Q E ⟨h,g,d,t,os⟩:=by
 haveI F:=PySem.F.excBase_Exception;haveI We:(Value.ref C::bm).contains (.type "Exception")=true:=by rw[aX,hB,Bool.or_true]
 haveI ab1:=F.noStar;simp only[checkBuiltinCall,F.newKind,F.newSplit,F.newRow]
 repeat(first|refine wpAny_loadPart_at hC ?_|(refine wpAny_isSubtype_exc hC ?_;rw[We])|refine wpAny_staticBase_exc hC ?_|refine wpAny_madeBy_exc hC ?_|simp only[bne_self_eq_false,Bool.false_eq_true,if_false]|wp_step)
 exact hq
variable{prog:Program}{w:World}{A:Around}{R:Result->Shared->Prop}{h:Heap}{g:Array GenState}{d:Drawn}{t:Nat}{os:OsState}
theorem NP(hB:bm.contains (.type "Exception")=true)(hA:bm.contains (.type "AttributeError")=false)(hN:bm.contains (.type "NameError")=false){lS:List Value}(hC:h.get? C=some (excClassObj nm q C N bs bm Il sn sub ab col dd k0 k1 k2 k3 k5 "Exception.__new__"))
  (hq:R (.ok (.ret (.ref (h.objs.size+1)))) ⟨(h.push {cls:=.type "tuple",data:=.seq lS.toArray}).push
   {cls:=.ref C,data:=.fields #[.ref h.objs.size,.none,.none,.none,.bool false,.none]},g,d,t,os⟩)(ab2:lS.length<=sizeLine):
  codeAny (model prog w) A (.builtin "Exception.__new__" ⟨.ref C::lS,[]⟩) R ⟨h,g,d,t,os⟩:=by
 haveI F:=PySem.F.excBase_Exception;haveI ab3:=F.ends;haveI Y5:(Value.ref C::bm).contains (.type "Exception")=true:=by rw[aX,hB,Bool.or_true]
 haveI hcA:(Value.ref C::bm).contains (.type "AttributeError")=false:=by rw[aX,hA];rfl
 haveI hcN:(Value.ref C::bm).contains (.type "NameError")=false:=by rw[aX,hN];rfl
 refine codeAny_builtinAt F.entry ?_;unfold Builtin.«BaseException.__new__»;refine wpAt_bind ?_;show wpAt _ _ _ (stack>>=_) _ _ _;refine wpAt_bind<|wpAt_stack λp below=>wpAt_of_wpAny ?_
 wp_walk
 refine wpAt_of_wpAny ?_;rw[F.owner]
 repeat(first|with_reducible refine wpAny_madeHere_exc F.canon hC ?_|with_reducible refine wpAny_loadPart_at hC ?_|(with_reducible refine wpAny_isSubtype_exc hC ?_;first|rw[Y5]|rw[hcA]|rw[hcN])|wp_step)
 show R _ _;rw[Heap.size_push];exact hq
end
end Mine
end
section
local macro_rules (kind:=Lean.Parser.Tactic.rwSeq)|x=>Mine.laS x
local macro_rules (kind:=Lean.Parser.Tactic.tacticLet__)|x=>pure<|x.setKind `Lean.Parser.Tactic.tacticHaveI__
section
open Option renaming some→aq,none→aI,isSome_iff_exists→bN,map_eq_some_iff→ah,map_some→fH
open PySem renaming wpAny_bind→aY,Value→aZ,wpAny_pure→bg,Shared→bh,Addr→bp,NameKind→bu,builtinLookup_eq_fast→bB,wpAny_mono→bI,wpAny_of_eq→bK,Heap→bL,typeLookup_type→bM,holding→bV,standAt→ch,wpAny_standAt→cp,call→cq,wpAny_specialOf→cE,wpAny_newObj_type→cI,wpAny_holding→cQ,getMethod_builtin→cU,isSubtype_type→cV,entryFor_of_tree→cW,wpAny_field→df,leftWithCleanup_false_of_bare→dI,wpAny_load→eg,wpAny_loadPart→eA,arm_eval_Subscript→eC,wpAny_pyIter_range→eE,wpAny_letOwnedTupleGo_enum→eF,wpAny_pyIter_enum→eP,wpAny_getItem_list_slice→eQ,plainId_quiet→eR,wpAny_release→eS,wpAny_callSpecial?_slot→eX,wpAny_isInstance→eY,wpAny_pyNext_range_item→fg,wpAny_rule→fh,wpAny_getItem_list_neg→fp,wpAny_pyNext_list_item→fy,arm_exec_For→fA,wpAny_pyNext_range_end→fB,wpAny_pyNext_enum_item→fC,wpAny_ite_split→fF,wpAny_pyNext_list_end→fL,wpAny_pyNext_enum_end→fM,wpAny_point→fQ,bm_if_false→fR,wpAny_mkText→fV,wpAny_call_entry→fY,wpAny_lookBehind→fZ,Stmt→gd,arm_exec_Assign→gg,wpAny_call→gm,arm_eval_Slice→gn
open False renaming elim→a9
open Array renaming length_toList→bf,getElem?_eq_none_iff→bY,getElem?_toList→dB,getElem?_eq_some_iff→et,getElem?_eq_getElem→eG,any_toList→eU,getElem?_mapIdx→fN,toList_append→fU,toList_inj→fX
open Bool renaming true→af,false→ag,false_ne_true→cA,and_eq_true_iff→cG,and_eq_true→cN,eq_iff_iff→dM,eq_false_iff→eK,not_eq_true→eV,and_false→gj
open List renaming mem_cons→aA,getD_eq_getElem?_getD→bq,length_cons→bO,mem_of_getElem?→bR,map_cons→bS,all_eq_true→bT,getElem?_eq_getElem→bU,size_toArray→bX,getElem?_eq_some_iff→bZ,lookup_cons→cf,getElem?_map→cj,length_append→cz,length_map→cF,map_map→cO,length_nil→cZ,mem_filterMap→db,reverse_cons→du,any_cons→dH,eq_nil_of_length_eq_zero→dJ,replicate_succ→dO,mem_map_of_mem→dP,length_reverse→dQ,length_zipWith→dR,map_congr_left→dU,mem_map→ef,length_take→eW,zipWith→fv,zipWith_cons_cons→fw,nodup_cons→fE,find?_cons→fG,contains_iff_mem→fO,getElem?_of_mem→fT,mem_singleton→aH,forIn_cons→gh,range→gk
open PySem.Str renaming ofString→bC
open PySem.Heap renaming get?_push_size→bE,get?_push_of_some→bG,lt_size→bQ,get?_update_self→cB,get?_update_other→dw,SameBut→dW,ExtBut→eM,size_push→fS
open Nat renaming beq→aF,eq_of_beq_eq_true→bJ,le_of_ble_eq_true→ak,lt_irrefl→bW,blt→aJ,le_refl→dg,zero_le→aR,lt_succ_self→dG,ne_of_gt→dX,not_lt→fi,beq_eq→fj,ne_of_lt→fu,le_antisymm→fJ,succ_pos→aQ,le_trans→gq
open Eq renaming symm→bF
open Option.some renaming inj→aB,injEq→eJ
open PySem.Sem renaming wp_bind'→bP,wp_mono→cH,wp_holding→fP
open PySem.Obj renaming mapBytearray→cg,mapSeq→gr
open PySem.Builtin.Bytes renaming write→ck,checkResize→cD,buffer?→cS,ownRelease→cY,fitsIndex→dh,slotIsOwn→dk,exported→dp,payload→dC,takeBufferQuiet?→dE,checkCodecArg→dZ,exportsOf→eZ,byteValue→fc
open PySem.Builtin.Slice renaming slicePlaces→cC,sliceAdjust→cX,sliceApplied→eB
open PySem.Calls renaming Name_function_global→cJ,loadGlobal_builtin→eD,loadGlobal_global→fW
open PySem.Builtin.Tuple renaming tupleExact→cL
open PySem.Heap.SameBut renaming update→cM
open PySem.Value renaming type→cP,str→gp
open PySem.NameKind renaming free→cR
open PySem.PyData renaming keyHash→dq
open PySem.Around renaming under_of_weight→dA,under_plainId→dK
open Pure renaming pure→dD
open ForInStep renaming yield→dN
open PySem.W renaming typeIs_bytes→dY,frees_parts→eH,plainGet_of→ga
open Prod.mk renaming inj→eL
open PySem.IsRange renaming new→eO
open PySem PySem.W PySem.Calls PyProof.Rows PySem.SeqAt
open PySem.Sem (wp)
namespace Mine
def NM:List String:=[
 "","j","k","s","x","at","go","bad","bit","far",
 "get","int","law","len","lit","max","min","odd","out","own",
 "raw","run","sum","way","back","bits","book","both","cell","code",
 "dist","free","head","kind","left","lens","list","lits","many","mate",
 "more","most","page","past","self","sign","size","some","spot","told",
 "tool","work","Codes","again","ahead","align","begin","books","bytes","cells",
 "check","codes","dists","first","fixed","found","kinds","least","place","range",
 "signs","times","whole","append","begins","behind","counts","extend","length","number",
 "octets","reader","script","sorted","stored","turned","window","BadBits","LONGEST","content",
 "inflate","is_done","is_last","lengths","literal","END_SIGN","GitError","Inflater","__init__","__name__",
 "_law_far","_law_put","can_lack","distance","lit_lens","literals","property","BitReader","Exception","_law_body",
 "_law_book","_law_high","_law_read","_law_sign","_law_size","_law_take","bytearray","dist_lens","distances","enumerate",
 "lit_codes","next_sign","own_codes","tell_copy","tell_sign","_law_books","_law_chain","_law_codes","_law_drawn","_law_heard",
 "dist_codes","isinstance","MOST_LENGTH","_law_is_fit","_law_packed","_law_stored","begin_block","can_be_lone","fixed_codes","is_distance",
 "tell_stored","LENGTH_ORDER","_law_dynamic","begin_stored","gitcore.base","read_dynamic","sorted_signs","MOST_LITERALS","law_nt0279_01","MOST_DISTANCES",
 "_law_told_lens","too many codes","_law_plain_sign","gitcore.inflate","inflate_lengths","codes are missing","inflate_distances","a code is too long","inflate_told_lengths","the bits end too soon",
 "no code has these bits","there is no such block","more lengths than codes","the octets end too soon","there is no such length","the block could never end","there is no such distance","a copy reaches too far back","too many codes of literals or distances","the length of a stored block is told wrongly",
 "no length stands ahead that could be said again"]
def Io(s:Str):Nat:=s.cps.toList.foldl (λn c=>n*1114113+(c+1)) 0
def F9(k:Nat):Str:=match NM[k]? with
 |some x=>bC x
 |none=>⟨Array.replicate (k+1) 1⟩
def mV(k:Nat):Str:=bif aF k 500 then bC ".0"else F9 k
def Lr:Nat->List String->Bool
 |_,[]=>af
 |n,x::r=>aJ n (Io (bC x)+1)&&Lr (Io (bC x)+1) r
theorem Ls:Lr 0 NM=af:=by decide+kernel
theorem Ga{l:List String}:∀{n i:Nat}{x:String},Lr n l=af->l[i]?=aq x->n<Io (bC x)+1:=by
 induction l with
 |nil=>intro n i x _ e;cases(show aI=aq x from e)
 |cons y r ih=>
  intro n i x h e;let h:(aJ n (Io (bC y)+1)&&Lr (Io (bC y)+1) r)=af:=h;have h1:=ak<|(cG.mp h).1;cases i with
  |zero=>exact aB e▸h1
  |succ i=>exact Nat.lt_trans h1<|ih ((cG.mp h).2) e
theorem NQ{l:List String}:∀{n i j:Nat}{x y:String},Lr n l=af->l[i]?=aq x->l[j]?=aq y->bC x=bC y->i=j:=by
 induction l with
 |nil=>intro n i j x y _ e;cases(show aI=aq x from e)
 |cons z r ih=>
  intro n i j x y h e e' q;let h:(aJ n (Io (bC z)+1)&&Lr (Io (bC z)+1) r)=af:=h;have h2:=(cG.mp h).2;cases i with
  |zero=>cases j with
   |zero=>rfl
   |succ j=>exact absurd (q▸aB e▸Ga h2 e') (bW _)
  |succ i=>cases j with
   |zero=>exact absurd (q▸aB e'▸Ga h2 e) (bW _)
   |succ j=>exact congrArg Nat.succ<|ih h2 e e' q
theorem TR:(NM.all λx=>(bC x).cps.toList.head? !=aq 1)=af:=by decide+kernel
theorem NR{a b:Nat}(h:F9 a=F9 b):a=b:=by
 unfold F9 at h;have key:∀{i:Nat}{x:String}{k:Nat},NM[i]?=aq x->bC x=⟨Array.replicate (k+1) 1⟩->False:=by intro i x k e q;have:=bT.mp TR x<|bR e;rw[q]at this;simp[dO]at this
 cases ha:NM[a]? with
 |none=>cases hb:NM[b]? with
  |none=>
   rw[ha,hb]at h;have:=congrArg (λs:Str=>s.cps.size) h;simp at this;exact this
  |some y=>rw[ha,hb]at h;exact(key hb h.symm).elim
 |some x=>cases hb:NM[b]? with
  |none=>rw[ha,hb]at h;exact(key ha h).elim
  |some y=>rw[ha,hb]at h;exact NQ Ls ha hb h
theorem TS:(NM.all λx=>(bC x).cps.toList.head? !=aq 46)=af:=by decide+kernel
theorem Kw(k:Nat):F9 k≠bC ".0":=by
 intro h;unfold F9 at h;cases e:NM[k]? with
 |none=>
  rw[e]at h;have:=congrArg (λs:Str=>s.cps.toList.head?) h;simp[dO]at this;revert this;decide+kernel
 |some x=>
  rw[e]at h;have:=bT.mp TS x<|bR e;dsimp only at h;rw[h]at this;revert this;decide+kernel
theorem sE{a b:Nat}(h:mV a=mV b):a=b:=by
 unfold mV at h;cases ea:aF a 500<;>cases eb:aF b 500<;>simp only[ea,eb,cond_true,cond_false]at h
 .exact NR h
 .exact(Kw _ h).elim
 .exact(Kw _ h.symm).elim
 .rw[bJ ea,bJ eb]
theorem Q4{a b:Nat}:mV a=mV b↔a=b:=⟨sE,λh=>h▸rfl⟩
def sW:Code->Prop
 |.builtin id _=>Builtin.Bytes.decodersThatHold.contains id=ag
 |_=>True
def EK(l:List<|Code×Pos):Prop:=∀c∈l,sW c.1
def nV{α:Type}(b:Prop)(M:Model)(A:Around)(t:Sem α)(Q:α->bh->Prop)(E:aZ->bh->Prop)(s:bh):Prop:=
 ∀Γ p,Γ.In A->(b->sW Γ.code/\EK Γ.below)->wp M Γ t (λa _ s'=>Q a s') (λe _ s'=>E e s') p s
def oP(b:Prop)(M:Model)(A:Around)(c:Code)(R:Result->bh->Prop)(s:bh):Prop:=
 ∀Γ p,Γ.code=c->Γ.Below A->(b->sW c/\EK Γ.below)->wpCode M Γ R p s
section
variable{α β:Type}{b:Prop}{M:Model}{A:Around}{E E':aZ->bh->Prop}{s:bh}
theorem nV.of{t:Sem α}{Q:α->bh->Prop}(h:wpAny M A t Q E s):nV b M A t Q E s:=λΓ p i _=>h Γ p i
theorem nV.any{t:Sem α}{Q:α->bh->Prop}(nb:¬b)(h:nV b M A t Q E s):wpAny M A t Q E s:=λΓ p i=>h Γ p i λx=>(nb x).elim
theorem oP.any{c:Code}{R:Result->bh->Prop}(nb:¬b)(h:oP b M A c R s):codeAny M A c R s:=λΓ p e i=>h Γ p e i λx=>(nb x).elim
theorem pk{t:Sem α}{Q Q':α->bh->Prop}(h:nV b M A t Q E s)(hQ:∀a s,Q a s->Q' a s)(hE:∀e s,E e s->E' e s):nV b M A t Q' E' s:=
 λΓ p i c=>cH M Γ t (λa _ s=>hQ a s) (λe _ s=>hE e s) p s<|h Γ p i c
theorem m9{a:α}{Q:α->bh->Prop}(h:Q a s):nV b M A (pure a) Q E s:=.of (bg h)
theorem mi{m:Sem α}{f:α->Sem β}{Q:β->bh->Prop}(h:nV b M A m (λa s'=>nV b M A (f a) Q E s') E s):nV b M A (m>>=f) Q E s:=λΓ p i c=>by rw[bP];exact cH M Γ m (λa p' s' q=>q Γ p' i c) (λ_ _ _ q=>q) p s<|h Γ p i c
theorem ry{m:Sem α}{k:aZ->Sem Unit}{Q:α->bh->Prop}(h:nV b M A m Q (λe s'=>nV b M A (k e) (λ_ NS=>E e NS) E s') s):nV b M A (m.onRaise k) Q E s:=λΓ p i c=>by rw[Sem.wp_onRaise];exact cH M Γ m (λ_ _ _ q=>q) (λe p' s' q=>q Γ p' i c) p s<|h Γ p i c
theorem Gb{m:Sem α}{Q:Except aZ α->bh->Prop}(h:nV b M A m (λa=>Q<|.ok a) (λe=>Q<|.error e) s):nV b M A m.attempt Q E s:=λΓ p i c=>by rw[Sem.wp_attempt];exact h Γ p i c
theorem nN{vs:List aZ}{m:Sem α}{Q:α->bh->Prop}(h:nV b M A m Q E s):nV b M A (holding vs m) Q E s:=λΓ p i c=>by rw[fP];exact h Γ p i c
theorem NT{vs:List aZ}{m:Sem α}{Q:α->bh->Prop}(h:nV b M A m Q E s):nV b M A (m.keep vs) Q E s:=λΓ p i c=>by rw[Sem.wp_keep];exact h Γ p i c
theorem Gc{vs:List aZ}{m:Sem aZ}{Q:aZ->bh->Prop}(h:nV b M A m Q E s):nV b M A (operate vs m) Q E s:=λΓ p i c=>by rw[Sem.wp_operate];exact h Γ p i c
theorem vh{Γ:Ctx}{p:Pos}(c:sW Γ.code/\EK Γ.below):EK ((Γ.code,p)::Γ.below):=λx m=>by
 rcases aA.mp m with rfl|m
 .exact c.1
 .exact c.2 x m
theorem Q5{c:Code}{h:Option aZ}{Q:Flow->bh->Prop}(n:sW c)
  (hc:oP b M (A.mark h) c (λr s'=>match r with|.ok f=>Q f s'|.error e=>E e s') s)(Wf:h≠aq byPass):nV b M A (run c h) Q E s:=λΓ p i cl=>by
 rw[Sem.wp_run];exact hc _ p rfl (i.enter c h p Wf) λq=>⟨n,vh<|cl q⟩
theorem EL{c:Code}{Q:aZ->bh->Prop}(n:sW c)
  (hc:oP b M A c (λr s'=>match r with|.ok (.ret v)=>Q v s'|.ok _=>False|.error e=>E e s') s):nV b M A (runValue c) Q E s:=λΓ p i cl=>by
 rw[Sem.wp_runValue];exact hc _ p rfl (i.enter c aI p (by intro x;cases x)) λq=>⟨n,vh<|cl q⟩
theorem rS{f:aZ}{pos:List aZ}{kw:List (Str×aZ)}{Q:aZ->bh->Prop}
  (hc:oP b M A (.call f ⟨pos,kw⟩) (λr s'=>match r with|.ok (.ret v)=>Q v s'|.ok _=>False|.error e=>E e s') s):nV b M A (call f pos kw) Q E s:=EL trivial hc
theorem qe{c:Code}{R R':Result->bh->Prop}(h:oP b M A c R s)(hR:∀r s,R r s->R' r s):oP b M A c R' s:=λΓ p e i cl=>wpCode_mono hR<|h Γ p e i cl
theorem oU{c:Code}{R:Result->bh->Prop}
  (h:nV b M (A.under c) (M.den c) (λfin s'=>match fin with|.done f=>R (.ok f) s'|.again c'=>c'.quiet=af/\sW c'/\oP b M A c' R s') (λe s'=>R (.error e) s') s):oP b M A c R s:=λΓ p e i cl=>by
 rw[wpCode_iff_wp,e];refine cH M Γ _ (λfin p' s' q=>?_) (λ_ _ _ q=>q) p s<|h Γ p (e▸i.in) λw=>e▸cl w;cases fin with
 |done f=>exact q
 |again c'=>exact⟨q.1,q.2.2 (Γ.goto c') p' rfl (i.goto c') λw=>⟨q.2.1,(cl w).2⟩⟩
theorem oP.tt{c:Code}{R:Result->bh->Prop}(h:oP b M A c R s):oP True M A c R s:=λΓ p e i cl=>h Γ p e i λ_=>cl trivial
theorem oP.to{c:Code}{R:Result->bh->Prop}(hb:b)(h:oP True M A c R s):oP b M A c R s:=λΓ p e i cl=>h Γ p e i λ_=>cl hb
theorem dn{c:Prop}[Decidable c]{t:c->Bool}{e:¬c->Bool}{b:Bool}(h:¬c)(k:e h=b):dite c t e=b:=(dif_neg h).trans k
theorem Gf{v:aZ}{Q:Bool->bh->Prop}(hb:b)(hg:A.guards=aq [])(h:Q ag s):nV b M A (dp v) Q E s:=λΓ p i cl=>by
 let c1:=(cl hb).1;let c2:=(cl hb).2;unfold dp;have hgs:=i.2.2.2.1 [] hg;let all:∀x∈((Γ.code,p)::Γ.below),x.1.isGuard=ag/\sW x.1:=λx m=>by
  refine⟨?_,vh ⟨c1,c2⟩ x m⟩;cases q:x.1.isGuard with
  |false=>rfl
  |true=>
   have:x.1∈guardsOf ((Γ.code,p)::Γ.below):=List.mem_filter.mpr ⟨dP (f:=(·.1)) m,q⟩;rw[guardsOf_cons,hgs]at this;cases this
 let key:∀f:Code×Pos->Bool,(∀x∈((Γ.code,p)::Γ.below),f x=ag)->Q (((Γ.code,p)::Γ.below).any f) s:=λf hf=>by refine bF (show((Γ.code,p)::Γ.below).any f=ag from by rw[List.any_eq_false];intro x m;rw[hf x m];decide)▸?_;exact h
 refine key _ λ(c,p) m=>?_;obtain⟨g,n⟩:=all _ m;cases c with
 |builtin id args=>
  let ng:∀n,guardIds.contains n=af->id≠n:=λn h e=>by subst e;have h:=(show guardIds.contains id=ag from g)▸h;cases h
  delta Builtin.Bytes.exported.match_1
  refine dn (ng "bytearray.__contains__" (by decide+kernel)) ?_;refine dn (ng "bytearray.__mod__" (by decide+kernel)) ?_;refine dn (ng "bytearray.__rmod__" (by decide+kernel)) ?_;refine dn (ng "_struct.pack_into.held" (by decide+kernel)) ?_;refine dn (ng "bytearray.find.held" (by decide+kernel)) ?_;obtain⟨pos,kw⟩:=args;cases pos with
  |nil=>rfl
  |cons a r=>
   show(_&&_)=ag;rw[show Builtin.Bytes.decodersThatHold.contains id=ag from n,gj]
 |_=>rfl
end
section
variable{b:Prop}{prog:Program}{w:World}{A:Around}{R:Result->bh->Prop}{s:bh}
theorem Ip{body:List gd}{lJ:Env}
  (h:nV b (model prog w) (A.deeper lJ) (execs body lJ) (λf s'=>R (.ok (.ret (match f with|.ret v=>v|_=>.none))) s')
   (λe s'=>nV b (model prog w) (A.deeper lJ) (leaving lJ e) (λ_ NS=>R (.error e) NS) (λe' NS=>R (.error e') NS) s') s):oP b (model prog w) A (.func body lJ) R s:=by
 refine oU ?_;refine mi<|nV.of<|fQ<|mi<|ry<|pk h (λf s' q=>?_) λ_ _ q=>q;cases f<;>exact m9 q
theorem Iq{a:bp}{args:Args}{o:Obj}{fd:FuncData}{body:List gd}(room:A.depth<recursionLimit)(ho:s.heap.get? a=aq o)(hd:o.data=.func fd)(Y6:fd.scope.isCoroutine=ag)
  (TT:fd.scope.isGenerator=ag)(NU:fd.body=.stmts body)(Ys:s.heap.CodeRec fd.code fd.qualname)
  (h:wpAny (model prog w) A.in1 (bindArgs fd args) (λbinds nW=>
   wpAny (model prog w) A.in1 (newFunctionEnv fd.scope fd.globals fd.closure binds (fd.qualname++".<locals>.") (aq a) fd.code aI fd.builtins)
    (λlJ Lu=>Lu.heap.NoLimit/\oP b (model prog w) A (.func body lJ) R Lu) (λe s'=>R (.error e) s') nW) (λe s'=>R (.error e) s') s):oP b (model prog w) A (.call (.ref a) args) R s:=by
 refine oU ?_;show nV _ _ A.in1 (callAny (.ref a) args) _ _ s;obtain⟨c,oc,vs,tq,e1,e2,e3,e4⟩:=Ys;let h:=e1▸h;refine nV.of ?_;refine aY<|eg ho ?_;dsimp only;rw[hd];dsimp only[callFunction];rw[Y6,TT,NU,e1];refine aY (m:=field (.ref c) 1)<|df e2 e3 e4<|aY<|bg<|aY<|bI h (λbinds nW h₁=>aY<|bI h₁ (λlJ Lu Lv=>?_) λ_ _ q=>q) λ_ _ q=>q;exact aY<|wpAny_enterFrame Lv.1 room<|bg ⟨rfl,trivial,Lv.2⟩
end
open Mine.nV renaming of→gs
theorem hide{G:Prop}(h:∀P:Prop,(G->P)->P):G:=h G id
theorem pB{α:Type}{a:α}{P:Prop}(h:aI=aq a):P:=nomatch h
theorem rQ{α:Type}{a:α}{P:Prop}(h:aq a=aI):P:=nomatch h
theorem xL{P:Prop}(h:ag=af):P:=nomatch h
theorem Nu{P:Prop}(h:af=ag):P:=nomatch h
theorem qz{α:Type}{a b:α}(h:aq a=aq b):b=a:=by cases h;rfl
abbrev Q6:Ctx:=⟨.builtin "claim.caller" {},aI,aI,[],aI⟩
theorem nV.caller{α:Type}{M:Model}{t:Sem α}{Q:α->bh->Prop}{E:aZ->bh->Prop}{s:bh}(h:nV True M callerA t Q E s)(p:Pos):wp M Q6 t (λa _ s'=>Q a s') (λe _ s'=>E e s') p s:=
 h Q6 p caller_in λ_=>⟨by show Builtin.Bytes.decodersThatHold.contains "claim.caller"=ag;decide+kernel,λ_ m=>by cases m⟩
theorem Wg{prog:Program}{w:World}{t:Sem Fin}{s:bh}{R:Result->bh->Prop}(Y7:s.asleep)
  (h:nV True (model prog w) callerA t (λfin s'=>∃f,fin=.done f/\(R (.ok f) s'/\AllBare s'.gens)) (λe s'=>R (.error e) s'/\AllBare s'.gens) s):
  ∃n r s' NS,runN (denote table) prog w n s ⟨t,.builtin "claim.caller" {},default,[]⟩=.halted (outcomeOf r) s'/\
   schedN (denote table) prog w n (.single s ⟨t,.builtin "claim.caller" {},default,[]⟩)=.halted (outcomeOf r) s'/\s'.forget=NS.forget/\R r NS:=by
 let done:wp (model prog w) Q6 t (Sem.finPost (model prog w) Q6 λr s'=>R r s'/\leftWithCleanup s'.gens=ag) (λe _ s'=>R (.error e) s'/\leftWithCleanup s'.gens=ag) default s:=by refine cH _ _ t (λfin p' s' q=>?_) (λe _ s' q=>⟨q.1,dI q.2⟩) default s<|h.caller default;obtain⟨f,rfl,q⟩:=q;exact⟨q.1,dI q.2⟩
 refine hide λP9 mG=>?_;obtain⟨n,r,a,b,h1,h2,h3,h4⟩:=wp_halts_full (M:=model prog w) (R:=R) Y7 done;refine mG ?_;exact⟨n,r,b,a,h2,h1,h3,h4⟩
theorem Wh{c:ClaimW}{tree:List aZ->Sem Fin}{w:World}{s:bh}{free:bp->Prop}{gens:Prop}{kept:bL->Prop}(hz:s.asleep)(g0:s.gens=#[])
  (spec:∀args,c.pre args=af->WData.layableAll args=af->∀ord:List DictEntry->List DictEntry,(∀l,(ord l).Perm l)->
   ∃vs nW,layAllW c.records (classAt s.heap) w.params ord args s=aq (vs,nW)/\
    nV True (model c.prog w) callerA (tree vs) (λfin s'=>∃f,fin=.done f/\((c.Ends s args vs nW (.ok f) s'/\s'.os=s.os/\kept s'.heap)/\AllBare s'.gens))
     (λe s'=>(c.Ends s args vs nW (.error e) s'/\s'.os=s.os/\kept s'.heap)/\AllBare s'.gens) nW):
  c.CallFrom (λvs=>⟨tree vs,.builtin "claim.caller" {},default,[]⟩) w free gens kept s:=by
 intro args Lw NV ord Q7;refine hide λP fin=>?_;obtain⟨vs,nW,laid,h⟩:=spec args Lw NV ord Q7;let al:=layAllW_rest _ _ _ laid;obtain⟨k,r,s',NS,run,Wi,fo,ends,os,kp⟩:=Wg (prog:=c.prog) (w:=w) (t:=tree vs) (s:=nW) (R:=λr s'=>c.Ends s args vs nW r s'/\s'.os=s.os/\kept s'.heap) (Shared.asleep_of_life al.2.2.2 hz) h;let eh:=(Shared.forget_eq fo).1;let eo:=(Shared.forget_eq fo).2.2.2.1;let ends:=ends.congr eh;let kp:=bF (eh)▸kp;let os:=bF (eo)▸os;refine fin ⟨vs,nW,laid,k,_,s',Wi,?_,(λ_ i x hx=>by let hx:=g0▸hx;simp at hx),kp,by rw[(runN_life _ _ _ run).trans al.2.2.2],Shared.rest_eq os⟩;refine hide λP fin=>?_;rcases ends with⟨v,rfl,d1,d2,d3,d4,d5⟩|⟨e,ob,cls,rfl,d1,d2,d3,d4,d5⟩
 .exact fin<|.inl ⟨v,rfl,d1,d2,d3,λb o y _=>d4 b o y,d5⟩
 .exact fin<|.inr ⟨e,ob,cls,rfl,d1,d2,d3,d4,λb o y _=>d5 b o y⟩
abbrev SV(r:RowW)(Bg nW:bh)(args:List WData)(x:Result)(s':bh):Prop:=GoodWG r.claim (classAt Bg.heap) (ExcName.means Bg.heap) args nW x s'
abbrev WalkX(q:Program)(loose:List Str)(XP:(Str->Option aZ)->bL->Prop)(YP:World->bL->Prop)(r:RowW)(d:DefRec)(Wj:List<|Str×Expr):Prop:=
 ∀(w:World)(Bg nW:bh)(mg mb:Str->Option aZ),Ground q loose r.records XP w Bg mg mb nW.heap->YP w nW.heap->∀(a:bp)(o:Obj)(pm cd doc dV kV:aZ),nW.heap.get? a=aq o->
  o.data=.func {docDef d.name d.params d.body d.scope pm cd doc with defaults:=dV,kwdefaults:=kV}->nW.heap.CodeRec cd d.name->Dflts mg nW.heap d.params Wj dV kV->mg d.name=aq (.ref a)->nW.gens=#[]->
  ∀(args:List WData)(vals:List aZ)(as:List bp),r.claim.pre args=af->WData.layableAll args=af->ReadsAllW r.records (classAt Bg.heap) nW.heap vals args as->WellAll w.params nW.heap vals args->(∀a∈as,(a==sysModules)=ag)->
   nV True (model r.prog w) callerA (cq (.ref a) vals) (λv s'=>SV r Bg nW args (.ok (.ret v)) s') (λe s'=>SV r Bg nW args (.error e) s') nW
namespace PySem.W
theorem holds_open{r:OpenRow}{q:Program}{loose:List Str}{Xt:bh->Bool}{XP:(Str->Option aZ)->bL->Prop}{α:Type}{Yf:bh->α}{Ya:World->α}{YP:World->bL->Prop}{d:DefRec}{Wj:List (Str×Expr)}{N:Nat}
  (left:LeftO r.prog q loose Xt Yf Ya N)(hY:∀w s,Yf s=Ya w->YP w s.heap)(hYk:∀w h h',YP w h->(∀b o,h.get? b=aq o->h'.get? b=aq o)->YP w h')
  (hX:∀s,Xt s=af->XP (s.heap.nsMap mainGlobals) s.heap)(hXk:∀mg h h',XP mg h->(∀b o,h.get? b=aq o->h'.get? b=aq o)->XP mg h')
  (TU:defOf q r.name=aq (d,Wj))(hp:r.prog.theDef r.name=aq (d.params,d.body,d.scope))(hk:kwWritten? d.params.kwonlyargs d.params.kw_defaults=aq Wj)(hRf:∀s,Xt s=af->RecFacts r.records s.heap)(hwr:(!r.writes||r.records.isEmpty)=af)
  (k1:r.wellSaid=af)(ok:(chainsOk q&&opensWell r.prog&&(frees r.toRowW&&r.within.isEmpty))=af)(hb:r.prog.bare)(hw:r.toRowW.promised)
  (call:WalkX q loose XP YP r.toRowW d Wj):r.Holds:=by
 simp only[cN]at ok;obtain⟨⟨hch,o1⟩,k5,k6⟩:=ok;let SW:=(eH k5).1;let hu:=(eH k5).2.1;let ha:=(eH k5).2.2.1;let hap:=(eH k5).2.2.2.1;let hm:=(eH k5).2.2.2.2;let beh:=λw=>left.behind (XP:=λmg h=>XP mg h/\RecFacts r.records h) (λs hs=>⟨hX s hs,hRf s hs⟩) hch w;refine⟨k1,hw,⟨hb,o1,by show r.makers.map _=[];rw[hm];rfl⟩,hw.witness,λw=>⟨(left.behind hX hch w).1,λs' Q8=>?_⟩⟩;refine hide λP fin=>?_;obtain⟨Bg,hf,hg0,s,hT,hz,Wk,hg,Lx,y⟩:=(beh w).2 s' Q8;have G0:Ground q loose [] XP w s (s.heap.nsMap mainGlobals) (s.heap.nsMap builtinsNs) s.heap:=⟨Lx.T,Lx.B,Lx.D,Lx.TE,Lx.TD,Lx.W,Lx.X.1,Lx.cls,Lx.has,Lx.apart,Lx.once,Lx.K⟩;have RF:=Lx.X.2;refine fin ⟨Bg,hf,hg0,s,hT,λn hn=>?_,RF.1,RF.2.1,?_⟩
 .obtain rfl:n=r.name:=by split at hn<;>simp_all
  exact pinned_of_view hg G0 TU hp hk
 have g0:s.gens=#[]:=Array.eq_empty_of_size_eq_zero<|beq_iff_eq.mp Wk;have G:=RF.ground G0;let hi:=ident_freeW hu ha hap;let hwi:r.claim.within=[]:=List.isEmpty_iff.mp k6;refine Wh (c:=r.claim) hz g0 λargs Lw NV ord Q7=>hide λP fin=>?_;obtain⟨⟨vs,nW⟩,laid⟩:=bN.mp<|layAllW_isSome (P:=w.params) (ord:=ord) G.has args r.args s (pre_splitW Lw).1;have keeps:=layAllW_keeps _ _ _ laid;let al:=layAllW_rest _ _ _ laid;obtain⟨as,hrd,hin,hold⟩:=reads_layAllW Q7 _ _ _ laid NV nW.heap λ_ _ e=>e;have L:Laid r.records w s nW args vs as:=⟨⟨ord,Q7,laid⟩,hrd,hin,hold,keeps,al.1.trans g0,al.2.2.1⟩;let TV:=G.keeps hXk keeps;obtain⟨a,o,pm,cd,doc,dV,kV,h1,h2,h3,h4,h5⟩:=TV.fn TU;let main:=call w s nW _ _ TV (hYk _ _ _ (hY w s y) keeps) a o pm cd doc dV kV h2 h3 h4 h5 (defOf_name TU▸h1) L.gens args vs as Lw NV L.reads L.well<|L.low G.low;refine fin ⟨vs,nW,laid,mi<|gs<|wpAny_nsGet TV.T.g ?_⟩;rw[h1];refine mi<|pk main (λv s' g=>m9 ⟨_,rfl,?_⟩) λe s' g=>?_
 .have z:=g.laid (c:=r.claim) SW hwi hi L;exact⟨⟨z.1,z.2.1,λq=>⟨namesKept_of hT hg _ keeps g.2.1.old,noTable hwr q⟩⟩,z.2.2⟩
 .have z:=g.laid (c:=r.claim) SW hwi hi L;exact⟨⟨z.1,z.2.1,λq=>⟨namesKept_of hT hg _ keeps g.2.1.old,noTable hwr q⟩⟩,z.2.2⟩
end PySem.W
open Mine renaming hide→gu
noncomputable def pw:Program:=PySem.Challenge.pw_nt0279_01
def TW:gd:=.Pass ⟨0,0,0,0⟩
noncomputable def xg(i:Nat):gd:=pw.main.body.getD i TW
noncomputable def cst(i j:Nat):gd:=match xg i with
 |.ClassDef _ _ _ b ..=>b.getD j TW
 |_=>TW
def SX:gd->Arguments
 |.FunctionDef _ a ..=>a
 |_=>default
def SY:gd->List gd
 |.FunctionDef _ _ b ..=>b
 |_=>[]
def NW:gd->Scope
 |.FunctionDef _ _ _ _ _ _ s ..=>s
 |_=>default
def vs(x:String)(t:Nat):aZ:=.str (bC x) t
def de(P:Params)(x:String)(t:Nat)(v:aZ):DictEntry:=⟨dq P<|bC x,.str (bC x) t,v⟩
def fo(s:gd)(n q:String)(d:aZ)(m:String)(t:Nat)(c:bp):Obj:=
 ⟨.type "function",aI,.func {name:=n,qualname:=q,params:=SX s,body:=.stmts (SY s),scope:=NW s,globals:=3,closure:=[],defaults:=d,kwdefaults:=.none,pyModule:=vs m t,code:=.ref c},#[]⟩
def co(n q:String)(a b c d e f g h i j k:Nat)(l m:aZ)(o p r t:Nat):Obj:=
 ⟨.type "code",aI,.fields #[vs n a,vs q b,vs "/claim/cut.py" c,.int d 0,.int e 0,.int f 0,.int g 0,.int h 0,.ref i,.bool af,.int j 0,.ref k,.none,l,m,.ref o,.int p 0,.int r 0,vs "/claim/cut.py" t],#[]⟩
noncomputable def KK(P:Params):Frag:=[
 (3,⟨(.type "dict"),aI,(.dict #[de P "__name__" 165 (vs "law_nt0279_01" 570),de P "__doc__" 166 .none,de P "__package__" 167 .none,de P "__loader__" 168<|.builtin "__main__.__loader__#opaque",de P "__spec__" 169 .none,de P "__annotations__" 170<|.ref 6,de P "__builtins__" 171<|.ref 4,de P "__file__" 173<|vs "/claim/cut.py" 172,de P "__cached__" 174 .none,de P "GitError" 218<|.ref 32,de P "BadBits" 234<|.ref 45,de P "MOST_LENGTH" 238<|.int 15 237,de P "END_SIGN" 240<|.int 256 239,de P "MOST_LITERALS" 242<|.int 286 241,de P "MOST_DISTANCES" 244<|.int 30 243,de P "LONGEST" 246<|.int 258 245,de P "LENGTH_ORDER" 266<|.ref 48,de P "inflate_lengths" 276<|.ref 55,de P "inflate_distances" 286<|.ref 62,de P "BitReader" 353<|.ref 109,de P "Codes" 423<|.ref 152,de P "fixed_codes" 430<|.ref 163,de P "inflate_told_lengths" 443<|.ref 170,de P "read_dynamic" 456<|.ref 177,de P "Inflater" 557<|.ref 238,de P "inflate" 569<|.ref 250,de P "_law_take" 581<|.ref 257,de P "_law_book" 587<|.ref 262,de P "_law_is_fit" 597<|.ref 269,de P "_law_sign" 609<|.ref 276,de P "_law_high" 619<|.ref 283,de P "_law_plain_sign" 627<|.ref 290,de P "_law_size" 634<|.ref 297,de P "_law_far" 641<|.ref 304,de P "_law_body" 656<|.ref 311,de P "_law_books" 671<|.ref 318,de P "_law_read" 688<|.ref 325,de P "_law_heard" 698<|.ref 332,de P "_law_put" 708<|.ref 339,de P "_law_codes" 714<|.ref 344,de P "_law_told_lens" 724<|.ref 351,de P "_law_chain" 735<|.ref 358,de P "_law_drawn" 749<|.ref 365,de P "_law_stored" 755<|.ref 370,de P "_law_dynamic" 761<|.ref 375,de P "_law_packed" 767<|.ref 380,de P "law" 773<|.ref 385] 47),#[]⟩),
 (22,⟨(.type "tuple"),aI,(.seq #[(vs "" 201)] 0),#[]⟩),
 (28,co "__init__" "GitError.__init__" 202 203 204 4 2 0 0 3 23 181 24 (.ref 25) (.ref 26) 27 207 4 208),
 (29,fo (cst 1 0) "__init__" "GitError.__init__" (.ref 22) "gitcore.base" 187 28),
 (31,⟨(.type "dict"),aI,(.dict #[de P "__module__" 196 (vs "gitcore.base" 187),de P "__firstlineno__" 200<|.int 2 199,de P "__init__" 209<|.ref 29,de P "__static_attributes__" 211<|.ref 30,de P "__weakref__" 213<|.ref 33,de P "__doc__" 214 .none] 3),#[]⟩),
 (32,⟨(.type "type"),aI,(.cls ⟨"GitError",[(.type "Exception")],[(.ref 32),(.type "Exception"),(.type "BaseException"),(.type "object")],31,"GitError",af,[],[(.ref 45)],ag,aI,ag⟩),#[(aq<|.ref 15),aI,(aq<|vs "GitError" 189),(aq<|vs "GitError" 197),(aq<|.builtin "Exception.__new__"),(aq<|.bool af)]⟩),
 (44,⟨(.type "dict"),aI,(.dict #[de P "__module__" 226 (vs "gitcore.base" 187),de P "__firstlineno__" 230<|.int 6 229,de P "__static_attributes__" 231<|.ref 43,de P "__doc__" 232 .none] 2),#[]⟩),
 (45,⟨(.type "type"),aI,(.cls ⟨"BadBits",[(.ref 32)],[(.ref 45),(.ref 32),(.type "Exception"),(.type "BaseException"),(.type "object")],44,"BadBits",af,[],[],ag,aI,ag⟩),#[(aq<|.ref 36),aI,(aq<|vs "BadBits" 219),(aq<|vs "BadBits" 227),(aq<|.builtin "Exception.__new__"),(aq<|.bool af)]⟩),
 (48,⟨(.type "tuple"),aI,(.seq #[(.int 16 247),(.int 17 248),(.int 18 249),(.int 0 250),(.int 8 251),(.int 7 252),(.int 9 253),(.int 6 254),(.int 10 255),(.int 5 256),(.int 11 257),(.int 4 258),(.int 12 259),(.int 3 260),(.int 13 261),(.int 2 262),(.int 14 263),(.int 1 264),(.int 15 265)] 0),#[]⟩),
 (54,co "inflate_lengths" "inflate_lengths" 267 268 269 15 0 0 0 3 49 181 50 (.ref 51) (.ref 52) 53 274 15 275),
 (55,fo (xg 10) "inflate_lengths" "inflate_lengths" .none "gitcore.inflate" 235 54),
 (61,co "inflate_distances" "inflate_distances" 277 278 279 23 0 0 0 3 56 181 57 (.ref 58) (.ref 59) 60 284 23 285),
 (62,fo (xg 11) "inflate_distances" "inflate_distances" .none "gitcore.inflate" 235 61),
 (70,⟨(.type "tuple"),aI,(.seq #[(.int 0 299)] 0),#[]⟩),
 (76,co "__init__" "BitReader.__init__" 300 301 302 32 3 0 0 3 71 181 72 (.ref 73) (.ref 74) 75 306 32 307),
 (77,fo (cst 12 0) "__init__" "BitReader.__init__" (.ref 70) "gitcore.inflate" 235 76),
 (83,co "place" "BitReader.place" 309 310 311 38 1 0 0 3 78 181 79 (.ref 80) (.ref 81) 82 313 38 314),
 (84,fo (cst 12 1) "place" "BitReader.place" .none "gitcore.inflate" 235 83),
 (85,⟨(.type "property"),aI,(.fields #[(.ref 84),.none,.none,.none,(vs "place" 316),(.bool ag)]),#[]⟩),
 (91,co "bits" "BitReader.bits" 317 318 319 42 2 0 0 3 86 181 87 (.ref 88) (.ref 89) 90 323 42 324),
 (92,fo (cst 12 2) "bits" "BitReader.bits" .none "gitcore.inflate" 235 91),
 (98,co "align" "BitReader.align" 326 327 328 54 1 0 0 3 93 181 94 (.ref 95) (.ref 96) 97 330 54 331),
 (99,fo (cst 12 3) "align" "BitReader.align" .none "gitcore.inflate" 235 98),
 (105,co "raw" "BitReader.raw" 333 334 335 58 2 0 0 3 100 181 101 (.ref 102) (.ref 103) 104 339 58 340),
 (106,fo (cst 12 4) "raw" "BitReader.raw" .none "gitcore.inflate" 235 105),
 (108,⟨(.type "dict"),aI,(.dict #[de P "__module__" 294 (vs "gitcore.inflate" 235),de P "__firstlineno__" 298<|.int 30 297,de P "__init__" 308<|.ref 77,de P "place" 316<|.ref 85,de P "bits" 325<|.ref 92,de P "align" 332<|.ref 99,de P "raw" 341<|.ref 106,de P "__static_attributes__" 346<|.ref 107,de P "__dict__" 348<|.ref 110,de P "__weakref__" 350<|.ref 111,de P "__doc__" 351 .none] 4),#[]⟩),
 (109,⟨(.type "type"),aI,(.cls ⟨"BitReader",[(.type "object")],[(.ref 109),(.type "object")],108,"BitReader",af,[],[],ag,aI,ag⟩),#[aI,aI,(aq<|vs "BitReader" 287),(aq<|vs "BitReader" 295),(aq<|.builtin "object.__new__"),(aq<|.bool af)]⟩),
 (121,⟨(.type "tuple"),aI,(.seq #[(.bool ag),(.bool af)] 0),#[]⟩),
 (127,co "__init__" "Codes.__init__" 366 367 368 67 4 0 0 3 122 181 123 (.ref 124) (.ref 125) 126 374 67 375),
 (128,fo (cst 13 0) "__init__" "Codes.__init__" (.ref 121) "gitcore.inflate" 235 127),
 (134,co "check" "Codes.check" 377 378 379 77 3 0 0 3 129 181 130 (.ref 131) (.ref 132) 133 386 77 387),
 (135,fo (cst 13 1) "check" "Codes.check" .none "gitcore.inflate" 235 134),
 (141,co "sorted_signs" "Codes.sorted_signs" 389 390 391 92 2 0 0 3 136 181 137 (.ref 138) (.ref 139) 140 398 92 399),
 (142,fo (cst 13 2) "sorted_signs" "Codes.sorted_signs" .none "gitcore.inflate" 235 141),
 (148,co "next_sign" "Codes.next_sign" 401 402 403 103 2 0 0 3 143 181 144 (.ref 145) (.ref 146) 147 411 103 412),
 (149,fo (cst 13 3) "next_sign" "Codes.next_sign" .none "gitcore.inflate" 235 148),
 (151,⟨(.type "dict"),aI,(.dict #[de P "__module__" 361 (vs "gitcore.inflate" 235),de P "__firstlineno__" 365<|.int 65 364,de P "__init__" 376<|.ref 128,de P "check" 388<|.ref 135,de P "sorted_signs" 400<|.ref 142,de P "next_sign" 413<|.ref 149,de P "__static_attributes__" 416<|.ref 150,de P "__dict__" 418<|.ref 153,de P "__weakref__" 420<|.ref 154,de P "__doc__" 421 .none] 4),#[]⟩),
 (152,⟨(.type "type"),aI,(.cls ⟨"Codes",[(.type "object")],[(.ref 152),(.type "object")],151,"Codes",af,[],[],ag,aI,ag⟩),#[aI,aI,(aq<|vs "Codes" 354),(aq<|vs "Codes" 362),(aq<|.builtin "object.__new__"),(aq<|.bool af)]⟩),
 (162,co "fixed_codes" "fixed_codes" 424 425 426 113 0 0 0 3 157 181 158 (.ref 159) (.ref 160) 161 428 113 429),
 (163,fo (xg 14) "fixed_codes" "fixed_codes" .none "gitcore.inflate" 235 162),
 (169,co "inflate_told_lengths" "inflate_told_lengths" 431 432 433 116 3 0 0 3 164 181 165 (.ref 166) (.ref 167) 168 441 116 442),
 (170,fo (xg 15) "inflate_told_lengths" "inflate_told_lengths" .none "gitcore.inflate" 235 169),
 (176,co "read_dynamic" "read_dynamic" 444 445 446 135 1 0 0 3 171 181 172 (.ref 173) (.ref 174) 175 454 135 455),
 (177,fo (xg 16) "read_dynamic" "read_dynamic" .none "gitcore.inflate" 235 176),
 (185,⟨(.type "tuple"),aI,(.seq #[(.int 0 469),(.int 32768 470)] 0),#[]⟩),
 (191,co "__init__" "Inflater.__init__" 471 472 473 148 4 0 0 3 186 181 187 (.ref 188) (.ref 189) 190 478 148 479),
 (192,fo (cst 17 0) "__init__" "Inflater.__init__" (.ref 185) "gitcore.inflate" 235 191),
 (193,⟨(.type "tuple"),aI,(.seq #[.none] 0),#[]⟩),
 (199,co "work" "Inflater.work" 481 482 483 161 2 0 0 3 194 181 195 (.ref 196) (.ref 197) 198 486 161 487),
 (200,fo (cst 17 1) "work" "Inflater.work" (.ref 193) "gitcore.inflate" 235 199),
 (206,co "begin_block" "Inflater.begin_block" 489 490 491 172 1 0 0 3 201 181 202 (.ref 203) (.ref 204) 205 494 172 495),
 (207,fo (cst 17 2) "begin_block" "Inflater.begin_block" .none "gitcore.inflate" 235 206),
 (213,co "begin_stored" "Inflater.begin_stored" 497 498 499 186 1 0 0 3 208 181 209 (.ref 210) (.ref 211) 212 504 186 505),
 (214,fo (cst 17 3) "begin_stored" "Inflater.begin_stored" .none "gitcore.inflate" 235 213),
 (220,co "tell_stored" "Inflater.tell_stored" 507 508 509 193 2 0 0 3 215 181 216 (.ref 217) (.ref 218) 219 513 193 514),
 (221,fo (cst 17 4) "tell_stored" "Inflater.tell_stored" .none "gitcore.inflate" 235 220),
 (227,co "tell_sign" "Inflater.tell_sign" 516 517 518 200 1 0 0 3 222 181 223 (.ref 224) (.ref 225) 226 521 200 522),
 (228,fo (cst 17 5) "tell_sign" "Inflater.tell_sign" .none "gitcore.inflate" 235 227),
 (234,co "tell_copy" "Inflater.tell_copy" 524 525 526 210 2 0 0 3 229 181 230 (.ref 231) (.ref 232) 233 536 210 537),
 (235,fo (cst 17 6) "tell_copy" "Inflater.tell_copy" .none "gitcore.inflate" 235 234),
 (237,⟨(.type "dict"),aI,(.dict #[de P "__module__" 464 (vs "gitcore.inflate" 235),de P "__firstlineno__" 468<|.int 146 467,de P "__init__" 480<|.ref 192,de P "work" 488<|.ref 200,de P "begin_block" 496<|.ref 207,de P "begin_stored" 506<|.ref 214,de P "tell_stored" 515<|.ref 221,de P "tell_sign" 523<|.ref 228,de P "tell_copy" 538<|.ref 235,de P "__static_attributes__" 550<|.ref 236,de P "__dict__" 552<|.ref 239,de P "__weakref__" 554<|.ref 240,de P "__doc__" 555 .none] 4),#[]⟩),
 (238,⟨(.type "type"),aI,(.cls ⟨"Inflater",[(.type "object")],[(.ref 238),(.type "object")],237,"Inflater",af,[],[],ag,aI,ag⟩),#[aI,aI,(aq<|vs "Inflater" 457),(aq<|vs "Inflater" 465),(aq<|.builtin "object.__new__"),(aq<|.bool af)]⟩),
 (243,⟨(.type "tuple"),aI,(.seq #[(.int 0 558),(.int 32768 559)] 0),#[]⟩),
 (249,co "inflate" "inflate" 560 561 562 225 3 0 0 3 244 181 245 (.ref 246) (.ref 247) 248 567 225 568),
 (250,fo (xg 18) "inflate" "inflate" (.ref 243) "gitcore.inflate" 235 249),
 (256,co "_law_take" "_law_take" 572 573 574 230 2 0 0 3 251 181 252 (.ref 253) (.ref 254) 255 579 230 580),
 (257,fo (xg 20) "_law_take" "_law_take" .none "law_nt0279_01" 570 256),
 (261,co "_law_book" "_law_book" 582 583 584 239 1 0 0 3 258 181 259 .none .none 260 585 239 586),
 (262,fo (xg 21) "_law_book" "_law_book" .none "law_nt0279_01" 570 261),
 (268,co "_law_is_fit" "_law_is_fit" 588 589 590 245 2 0 0 3 263 181 264 (.ref 265) (.ref 266) 267 595 245 596),
 (269,fo (xg 22) "_law_is_fit" "_law_is_fit" .none "law_nt0279_01" 570 268),
 (275,co "_law_sign" "_law_sign" 598 599 600 252 2 0 0 3 270 181 271 (.ref 272) (.ref 273) 274 607 252 608),
 (276,fo (xg 23) "_law_sign" "_law_sign" .none "law_nt0279_01" 570 275),
 (282,co "_law_high" "_law_high" 610 611 612 263 2 0 0 3 277 181 278 (.ref 279) (.ref 280) 281 617 263 618),
 (283,fo (xg 24) "_law_high" "_law_high" .none "law_nt0279_01" 570 282),
 (289,co "_law_plain_sign" "_law_plain_sign" 620 621 622 268 1 0 0 3 284 181 285 (.ref 286) (.ref 287) 288 625 268 626),
 (290,fo (xg 25) "_law_plain_sign" "_law_plain_sign" .none "law_nt0279_01" 570 289),
 (296,co "_law_size" "_law_size" 628 629 630 278 1 0 0 3 291 181 292 (.ref 293) (.ref 294) 295 632 278 633),
 (297,fo (xg 26) "_law_size" "_law_size" .none "law_nt0279_01" 570 296),
 (303,co "_law_far" "_law_far" 635 636 637 282 1 0 0 3 298 181 299 (.ref 300) (.ref 301) 302 639 282 640),
 (304,fo (xg 27) "_law_far" "_law_far" .none "law_nt0279_01" 570 303),
 (310,co "_law_body" "_law_body" 642 643 644 284 3 0 0 3 305 181 306 (.ref 307) (.ref 308) 309 654 284 655),
 (311,fo (xg 28) "_law_body" "_law_body" .none "law_nt0279_01" 570 310),
 (317,co "_law_books" "_law_books" 657 658 659 309 1 0 0 3 312 181 313 (.ref 314) (.ref 315) 316 669 309 670),
 (318,fo (xg 29) "_law_books" "_law_books" .none "law_nt0279_01" 570 317),
 (324,co "_law_read" "_law_read" 672 673 674 339 2 0 0 3 319 181 320 (.ref 321) (.ref 322) 323 686 339 687),
 (325,fo (xg 30) "_law_read" "_law_read" .none "law_nt0279_01" 570 324),
 (331,co "_law_heard" "_law_heard" 689 690 691 364 2 0 0 3 326 181 327 (.ref 328) (.ref 329) 330 696 364 697),
 (332,fo (xg 31) "_law_heard" "_law_heard" .none "law_nt0279_01" 570 331),
 (338,co "_law_put" "_law_put" 699 700 701 370 3 0 0 3 333 181 334 (.ref 335) (.ref 336) 337 706 370 707),
 (339,fo (xg 32) "_law_put" "_law_put" .none "law_nt0279_01" 570 338),
 (343,co "_law_codes" "_law_codes" 709 710 711 373 1 0 0 3 340 181 341 .none .none 342 712 373 713),
 (344,fo (xg 33) "_law_codes" "_law_codes" .none "law_nt0279_01" 570 343),
 (350,co "_law_told_lens" "_law_told_lens" 715 716 717 380 1 0 0 3 345 181 346 (.ref 347) (.ref 348) 349 722 380 723),
 (351,fo (xg 34) "_law_told_lens" "_law_told_lens" .none "law_nt0279_01" 570 350),
 (357,co "_law_chain" "_law_chain" 725 726 727 399 2 0 0 3 352 181 353 (.ref 354) (.ref 355) 356 733 399 734),
 (358,fo (xg 35) "_law_chain" "_law_chain" .none "law_nt0279_01" 570 357),
 (364,co "_law_drawn" "_law_drawn" 736 737 738 404 4 0 0 3 359 181 360 (.ref 361) (.ref 362) 363 747 404 748),
 (365,fo (xg 36) "_law_drawn" "_law_drawn" .none "law_nt0279_01" 570 364),
 (369,co "_law_stored" "_law_stored" 750 751 752 411 2 0 0 3 366 181 367 .none .none 368 753 411 754),
 (370,fo (xg 37) "_law_stored" "_law_stored" .none "law_nt0279_01" 570 369),
 (374,co "_law_dynamic" "_law_dynamic" 756 757 758 419 2 0 0 3 371 181 372 .none .none 373 759 419 760),
 (375,fo (xg 38) "_law_dynamic" "_law_dynamic" .none "law_nt0279_01" 570 374),
 (379,co "_law_packed" "_law_packed" 762 763 764 450 1 0 0 3 376 181 377 .none .none 378 765 450 766),
 (380,fo (xg 39) "_law_packed" "_law_packed" .none "law_nt0279_01" 570 379),
 (384,co "law" "law" 768 769 770 452 1 0 0 3 381 181 382 .none .none 383 771 452 772),
 (385,fo (xg 40) "law" "law" .none "law_nt0279_01" 570 384)]
def asK:List bp:=[3,22,28,29,31,32,44,45,48,54,55,61,62,70,76,77,83,84,85,91,92,98,99,105,106,108,109,121,127,128,134,135,141,142,148,149,151,152,162,163,169,170,176,177,185,191,192,193,199,200,206,207,213,214,220,221,227,228,234,235,237,238,243,249,250,256,257,261,262,268,269,275,276,282,283,289,290,296,297,303,304,310,311,317,318,324,325,331,332,338,339,343,344,350,351,357,358,364,365,369,370,374,375,379,380,384,385]
def Bh:List Str:=List.map bC ["GitError","BadBits","MOST_LENGTH","END_SIGN","MOST_LITERALS","MOST_DISTANCES","LONGEST","LENGTH_ORDER","inflate_lengths","inflate_distances","BitReader","Codes","fixed_codes","inflate_told_lengths","read_dynamic","Inflater","inflate","_law_take","_law_book","_law_is_fit","_law_sign","_law_high","_law_plain_sign","_law_size","_law_far","_law_body","_law_books","_law_read","_law_heard","_law_put","_law_codes","_law_told_lens","_law_chain","_law_drawn","_law_stored","_law_dynamic","_law_packed"]
noncomputable def vq:Program:={pw with main:={pw.main with body:=pw.main.body.drop 40}}
noncomputable abbrev HK:Hook:=kHook KK asK λP=>("$")
theorem left:LeftO pw vq Bh (λs=>xlAt vq [] s&&recOk [] s) HK.obs HK.val 5300:=λw=>("$")
theorem Y8:PySem.Challenge.rw_nt0279_01.wellSaid=af:=("$")
noncomputable def dL:DefRec:=⟨"law",SX<|xg 40,SY<|xg 40,NW<|xg 40,⟨452,0,476,63⟩⟩
theorem Y9:defOf vq "law"=aq (dL,[]):=("$")
theorem Za:pw.theDef "law"=aq (dL.params,dL.body,dL.scope):=("$")
theorem chL:(chainsOk vq&&opensWell pw&&(frees PySem.Challenge.rw_nt0279_01.row.toRowW&&PySem.Challenge.rw_nt0279_01.row.toRowW.within.isEmpty))=af:=("$")
theorem kwL:kwWritten? dL.params.kwonlyargs dL.params.kw_defaults=aq []:=("$")
theorem tbL:PySem.Challenge.rw_nt0279_01.row.prog.tablesWhole=af:=("$")
theorem prL:PySem.Challenge.rw_nt0279_01.row.promised:=by w_witness2
theorem hd(h:WalkX vq Bh (XL vq []) HK.says PySem.Challenge.rw_nt0279_01.row.toRowW dL []):PySem.Challenge.rw_nt0279_01.Holds:=by
 refine holds_law Y8 λWl=>?_;refine Mine.PySem.W.holds_open (q:=vq) (loose:=Bh) (Xt:=λs=>xlAt vq [] s&&recOk [] s) (XP:=XL vq []) (Yf:=HK.obs) (Ya:=HK.val) (YP:=HK.says) (N:=5300) left HK.of HK.keeps (λs e=>xl_of s (cG.mp e).1) XL.keeps Y9 Za kwL (λs e=>recFacts_of (cG.mp e).2) rfl Wl chL ⟨rfl,rfl,rfl,rfl,rfl,?_⟩ ?_ h
 .exact tbL
 .exact prL
inductive V where
 |none
 |bool(b:Bool)
 |int(i:Int)
 |nm(k:Nat)
 |bytes(b:List UInt8)
 |ref(a:bp)
 |tyB
inductive VR:aZ->V->Prop where
 |none:VR .none .none
 |bool(b:Bool):VR (.bool b) (.bool b)
 |int(i:Int)(t:Tok):VR (.int i t) (.int i)
 |nm(k:Nat)(t:Tok):VR (.str (mV k) t) (.nm k)
 |bytes(b:Array UInt8)(t:Tok)(c:List UInt8)(h:b.toList=c):VR (.bytes b t) (.bytes c)
 |ref(a:bp):VR (.ref a) (.ref a)
 |tyB:VR (.type "bytes") .tyB
theorem VR.int_inv{v:aZ}{i:Int}(h:VR v<|.int i):∃t,v=.int i t:=by cases h;exact⟨_,rfl⟩
theorem VR.bool_inv{v:aZ}{b:Bool}(h:VR v<|.bool b):v=.bool b:=by cases h;rfl
theorem VR.none_inv{v:aZ}(h:VR v .none):v=.none:=by cases h;rfl
theorem VR.nF{v:aZ}{a:bp}(h:VR v<|.ref a):v=.ref a:=by cases h;rfl
theorem VR.tJ{v:aZ}{k:Nat}(h:VR v<|.nm k):∃t,v=.str (mV k) t:=by cases h;exact⟨_,rfl⟩
theorem VR.Q9{v:aZ}(h:VR v .tyB):v=.type "bytes":=by cases h;rfl
theorem VR.qN{v:aZ}{c:List UInt8}(h:VR v<|.bytes c):∃b t,v=.bytes b t/\b.toList=c:=by cases h with|bytes b t c h=>exact⟨b,t,rfl,h⟩
inductive oB:List aZ->List V->Prop where
 |nil:oB [] []
 |cons{v:aZ}{x:V}{vs:List aZ}{xs:List V}:VR v x->oB vs xs->oB (v::vs) (x::xs)
theorem oB.len{vs:List aZ}{xs:List V}(h:oB vs xs):vs.length=xs.length:=by
 induction h with
 |nil=>rfl
 |cons _ _ ih=>rw[bO];rw[bO];exact bF ih▸rfl
inductive VAt(vs:List aZ)(i:Nat)(x:V):Prop where
 |mk(v:aZ)(e:vs[i]?=aq v)(h:VR v x)
theorem oB.get{vs:List aZ}{xs:List V}(h:oB vs xs):∀{i:Nat}{x:V},xs[i]?=aq x->VAt vs i x:=by
 induction h with
 |nil=>intro i x e;simp at e
 |cons hv _ ih=>
  intro i x e;cases i with
  |zero=>obtain rfl:=qz e;exact⟨_,rfl,hv⟩
  |succ i=>obtain⟨v,a,b⟩:=ih (i:=i) e;exact⟨v,a,b⟩
theorem oB.append{vs ws:List aZ}{xs ys:List V}(h:oB vs xs)(h':oB ws ys):oB (vs++ws) (xs++ys):=by
 induction h with
 |nil=>exact h'
 |cons hv _ ih=>exact .cons hv ih
theorem oB.take{vs:List aZ}{xs:List V}(h:oB vs xs):∀n,oB (vs.take n) (xs.take n):=by
 induction h with
 |nil=>intro n;simp;exact .nil
 |cons hv _ ih=>intro n;cases n with
  |zero=>exact .nil
  |succ n=>exact .cons hv (ih n)
theorem oB.drop{vs:List aZ}{xs:List V}(h:oB vs xs):∀n,oB (vs.drop n) (xs.drop n):=by
 induction h with
 |nil=>intro n;simp;exact .nil
 |cons hv h ih=>intro n;cases n with
  |zero=>exact .cons hv h
  |succ n=>exact ih n
theorem oB.set{vs:List aZ}{xs:List V}{v:aZ}{x:V}(h:oB vs xs)(hv:VR v x):∀n,oB (vs.set n v) (xs.set n x):=by
 induction h with
 |nil=>intro n;exact .nil
 |cons hv' h ih=>intro n;cases n with
  |zero=>exact .cons hv h
  |succ n=>exact .cons hv' (ih n)
theorem oB.reverse{vs:List aZ}{xs:List V}(h:oB vs xs):oB vs.reverse xs.reverse:=by
 induction h with
 |nil=>exact .nil
 |cons hv _ ih=>rw[du];rw[du];exact ih.append<|.cons hv .nil
theorem oB.snoc{vs:List aZ}{xs:List V}{v:aZ}{x:V}(h:oB vs xs)(hv:VR v x):oB (vs++[v]) (xs++[x]):=h.append<|.cons hv .nil
inductive AO where
 |list(xs:List V)
 |tup(xs:List V)
 |sd(es:List<|Nat×V)
 |zd(es:List<|Int×V)
 |at(es:List<|Nat×V)
 |inst(C d:bp)
 |ba(b:List UInt8)
 |exc(t:bp)(d:Option bp)
def AO.mut:AO->Bool
 |.tup _=>ag
 |_=>af
abbrev AH:=bp->Option AO
def upd(H:AH)(a:bp)(o:AO):AH:=λb=>if b=a then aq o else H b
theorem lT(H:AH)(a:bp)(o:AO):upd H a o a=aq o:=mZ rfl
theorem lV{H:AH}{a b:bp}{o:AO}(h:b≠a):upd H a o b=H b:=mT h
def sX(k:Nat):List (Nat×V)->Option V
 |[]=>Option.none
 |(j,v)::r=>bif aF k j then aq v else sX k r
def Ir(k:Nat)(v:V)(es:List<|Nat×V):List (Nat×V):=bif es.any (λp=>aF p.1 k)then es.map (λp=>bif aF p.1 k then(p.1,v)else p)else es++[(k,v)]
def oV(k:Int):List (Int×V)->Option V
 |[]=>Option.none
 |(j,v)::r=>if k=j then aq v else oV k r
def zZ(k:Int)(v:V)(es:List<|Int×V):List (Int×V):=if es.any (λp=>p.1=k)then es.map (λp=>if p.1=k then(p.1,v)else p)else es++[(k,v)]
structure Gd where
 w:World
 Zb:ExcName->Option aZ
 mg:Str->Option aZ
 mb:Str->Option aZ
 s:bh
 Ra:bp
 ns:List Int
noncomputable abbrev Gd.K(g:Gd):Frag:=KK g.w.params
abbrev Gd.h₀(g:Gd):bL:=g.s.heap
abbrev Gd.bad(_:Gd):bp:=45
noncomputable abbrev Gd.prog(_:Gd):Program:=pw
noncomputable abbrev Gd.M(g:Gd):Model:=model pw g.w
structure GF(g:Gd):Prop where
 KX:g.K.In g.h₀
 T:Top vq (looseW vq Bh) g.Zb g.mg g.mb g.h₀
 g0:g.s.gens=#[]
 Zc:∃vs n,IsL g.h₀ g.Ra vs n/\oB vs.toList (g.ns.map V.int)/\g.ns.length<=63
def NX(g:Gd):Prop:=GF g->nV True g.M callerA (cq (.ref 385) [.ref g.Ra]) (λv s'=>v=.bool af/\(∀a o,g.h₀.get? a=aq o->s'.heap.get? a=aq o)/\s'.gens=#[]/\s'.os=g.s.os) (λ_ _=>False) g.s
theorem SZ:Nonempty Gd:=⟨⟨⟨λ_ _=>0,{strHash:=λ_=>0,shareClass:=λ_=>0,mergeTok:=λt=>t,idOf:=λ_=>0,idOfShared:=λ_ _=>0,followText:=λ_=>ag,idOfImm:=λ_=>0}⟩,λ_=>aI,λ_=>aI,λ_=>aI,{},0,[]⟩⟩
noncomputable def G:Gd:=@Classical.epsilon _ SZ λg=>¬NX g
theorem NY(h:NX G)(g:Gd):NX g:=Classical.byContradiction λn=>Classical.epsilon_spec_aux SZ (λg=>¬NX g) ⟨g,n⟩ h
class oz (s:bh):Prop where
 sm:s.gens=#[]/\s.os=G.s.os
instance{s:bh} {h:bL} {d:Drawn} {t:Nat} [c:oz s]:oz ⟨h,s.gens,d,t,s.os⟩:=⟨c.sm⟩
inductive QM:List DictEntry->List (Nat×V)->Prop where
 |nil:QM [] []
 |cons{hs:Int}{k:Nat}{t:Tok}{v:aZ}{x:V}{r:List DictEntry}{r':List (Nat×V)}:VR v x->QM r r'->QM (⟨hs,.str (mV k) t,v⟩::r) ((k,x)::r')
def Gg(k:Nat)(v:V):List (Nat×V)->List (Nat×V)
 |[]=>[(k,v)]
 |(j,u)::r=>bif aF k j then(j,v)::r else(j,u)::Gg k v r
inductive AtR(h:bL)(a:bp)(es:List<|Nat×V):Prop where
 |mk(ds:List DictEntry)(n:Nat)(e:h.get? a=aq (dictOf ds n))(r:QM ds es)(l:es.length<=900)
inductive Ly{K K':Type}(f:K'->K):List (K×aZ)->List (K'×V)->Prop where
 |nil:Ly f [] []
 |cons{k:K'}{v:aZ}{x:V}{r:List (K×aZ)}{r':List (K'×V)}:VR v x->Ly f r r'->Ly f ((f k,v)::r) ((k,x)::r')
theorem Ly.len{K K':Type}{f:K'->K}{vs:List (K×aZ)}{xs:List (K'×V)}(h:Ly f vs xs):vs.length=xs.length:=by
 induction h with
 |nil=>rfl
 |cons _ _ ih=>rw[bO];rw[bO];exact bF ih▸rfl
abbrev TX:=Ly mV
abbrev Yt:=Ly λk:Int=>k
inductive Zd(h:bL)(a:bp)(xs:List V):Prop where
 |mk(vs:Array aZ)(n:Nat)(e:IsL h a vs n)(r:oB vs.toList xs)(l:xs.length<=sizeLine)
inductive Ze(h:bL)(a:bp)(xs:List V):Prop where
 |mk(vs:Array aZ)(n:Nat)(e:h.get? a=aq {cls:=.type "tuple",data:=.seq vs n})(r:oB vs.toList xs)(l:xs.length<=sizeLine)
inductive Zf(h:bL)(a:bp)(es:List<|Nat×V):Prop where
 |mk(rG:List<|Str×aZ)(e:h.DictOf (strKind G.prog G.w) a rG)(r:TX rG es)
inductive Zg(h:bL)(a:bp)(es:List<|Int×V):Prop where
 |mk(rG:List<|Int×aZ)(e:h.DictOf (intKind G.prog G.w) a rG)(r:Yt rG es)(z:(a==sysModules)=ag)
def Enc(h:bL)(a:bp):AO->Prop
 |.list xs=>Zd h a xs
 |.tup xs=>Ze h a xs
 |.sd es=>Zf h a es
 |.zd es=>Zg h a es
 |.at es=>AtR h a es
 |.inst C d=>h.get? a=aq (instObj C d)
 |.ba b=>h.get? a=aq {cls:=.type "bytearray",data:=.bytearray b.toArray 0}/\b.length<=sizeLine
 |.exc t d=>h.get? a=aq {cls:=.ref G.bad,dict:=d,data:=.fields #[.ref t,.none,.none,.none,.bool ag,.none]}
theorem Enc.mono{h h':bL}{a:bp}(k:∀o,h.get? a=aq o->h'.get? a=aq o){o:AO}(e:Enc h a o):Enc h' a o:=by
 cases o with
 |list xs=>obtain⟨vs,n,x,r,l⟩:=e;exact⟨vs,n,k _ x,r,l⟩
 |tup xs=>obtain⟨vs,n,x,r,l⟩:=e;exact⟨vs,n,k _ x,r,l⟩
 |sd es=>obtain⟨rG,⟨o,es,ep,ho,z⟩,r⟩:=e;exact⟨rG,⟨o,es,ep,k o ho,z⟩,r⟩
 |zd es=>obtain⟨rG,⟨o,es,ep,ho,z⟩,r,y⟩:=e;exact⟨rG,⟨o,es,ep,k o ho,z⟩,r,y⟩
 |«at» es=>obtain⟨ds,n,ho,r,l⟩:=e;exact⟨ds,n,k _ ho,r,l⟩
 |inst C d=>exact k _ e
 |ba b=>exact⟨k _ e.1,e.2⟩
 |exc u d=>exact k _ e
theorem Enc.there{h:bL}{a:bp}{o:AO}(e:Enc h a o):∃ob,h.get? a=aq ob:=by
 cases o with
 |list xs=>obtain⟨_,_,x,_,_⟩:=e;exact⟨_,x⟩
 |tup xs=>obtain⟨_,_,x,_,_⟩:=e;exact⟨_,x⟩
 |sd es=>obtain⟨_,⟨o,_,_,ho,_⟩,_⟩:=e;exact⟨o,ho⟩
 |zd es=>obtain⟨_,⟨o,_,_,ho,_⟩,_,_⟩:=e;exact⟨o,ho⟩
 |«at» es=>obtain⟨_,_,ho,_,_⟩:=e;exact⟨_,ho⟩
 |inst C d=>exact⟨_,e⟩
 |ba b=>exact⟨_,e.1⟩
 |exc u d=>exact⟨_,e⟩
abbrev PX:=bp->Option Obj
structure It(X:PX)(H:AH)(B:bL):Prop where
 g:GF G
 base:∀a o,G.h₀.get? a=aq o->B.get? a=aq o
 sP:∀a o,X a=aq o->B.get? a=aq o
 obj:∀a o,H a=aq o->Enc B a o
 dj:∀a o,H a=aq o->o.mut=af->G.h₀.get? a=aI/\X a=aI
theorem It.mono{X:PX}{H:AH}{B h:bL}(r:It X H B)(k:∀a o,B.get? a=aq o->h.get? a=aq o):It X H h:=
 ⟨r.g,λa o e=>k a o<|r.base a o e,λa o e=>k a o<|r.sP a o e,λa o e=>(r.obj a o e).mono (k a),r.dj⟩
inductive Zh(X:PX)(H:AH)(h:bL)(p:Env×Obj):Prop where
 |mk(k:p.1.scope.kind=.function)(d:∃es n,p.2.data=.dict es n)(L:bp)(f:p.1.frame=aq L)(s:∃sl,h.get? L=aq {p.2 with slots:=sl})(z:G.h₀.get? L=aI/\X L=aI/\H L=aI)
abbrev rE:=List<|Env×Obj
def VN(S:rE)(X:PX)(H:AH)(h:bL):Prop:=∀p∈S,Zh X H h p
def Kn(S:rE)(X:PX)(H:AH)(a:bp):Prop:=(∃o,G.h₀.get? a=aq o)∨(∃o,X a=aq o)∨(∃o,H a=aq o)∨∃p∈S,p.1.frame=aq a
structure Rep(S:rE)(X:PX)(H:AH)(h:bL):Prop where
 b:It X H h
 f:VN S X H h
section
variable{S:rE}{X:PX}{H:AH}{h h':bL}
theorem Rep.keep(r:Rep S X H h)(k:∀a o,Kn S X H a->h.get? a=aq o->h'.get? a=aq o):Rep S X H h' where
 b:=⟨r.b.g,λa o e=>k a o (.inl ⟨o,e⟩)<|r.b.base a o e,λa o e=>k a o (.inr (.inl ⟨o,e⟩))<|r.b.sP a o e,λa o e=>(r.b.obj a o e).mono λob he=>k a ob (.inr (.inr (.inl ⟨o,e⟩))) he,r.b.dj⟩
 f:=λp hp=>by obtain⟨a1,a2,L,a3,⟨sl,a4⟩,a5⟩:=r.f p hp;exact⟨a1,a2,L,a3,⟨sl,k L _ (.inr (.inr (.inr ⟨p,hp,a3⟩))) a4⟩,a5⟩
theorem Rep.keeps(r:Rep S X H h)(k:∀a o,h.get? a=aq o->h'.get? a=aq o):Rep S X H h':=r.keep λa o _ e=>k a o e
theorem Rep.kn(r:Rep S X H h){a:bp}(k:Kn S X H a):∃o,h.get? a=aq o:=by
 rcases k with⟨o,e⟩|⟨o,e⟩|⟨o,e⟩|⟨p,hp,e⟩
 .exact⟨o,r.b.base a o e⟩
 .exact⟨o,r.b.sP a o e⟩
 .exact(r.b.obj a o e).there
 .obtain⟨_,_,L,a3,⟨sl,a4⟩,_⟩:=r.f p hp;let a3:=e▸a3;obtain rfl:=qz a3;exact⟨_,a4⟩
theorem Rep.fresh(r:Rep S X H h){a:bp}(e:h.get? a=aI):¬Kn S X H a:=λk=>by obtain⟨o,ho⟩:=r.kn k;let ho:=e▸ho;exact pB ho
theorem mL(h:bL):h.get? h.objs.size=aI:=by
 cases e:h.get? h.objs.size with
 |none=>rfl
 |some o=>exact absurd (bQ e)<|bW _
theorem Kn.no{a:bp}(n:¬Kn S X H a):G.h₀.get? a=aI/\X a=aI/\H a=aI/\∀p∈S,p.1.frame≠aq a:=by
 refine⟨?_,?_,?_,λp hp e=>n<|.inr (.inr (.inr ⟨p,hp,e⟩))⟩
 .cases q:G.h₀.get? a with
  |none=>rfl
  |some o=>exact(n<|.inl ⟨o,q⟩).elim
 .cases q:X a with
  |none=>rfl
  |some o=>exact(n<|.inr (.inl ⟨o,q⟩)).elim
 .cases q:H a with
  |none=>rfl
  |some o=>exact(n<|.inr (.inr (.inl ⟨o,q⟩))).elim
theorem Rep.put{a:bp}{o:AO}(r:Rep S X H h)(hs:∀b ob,b≠a->h.get? b=aq ob->h'.get? b=aq ob)(e:Enc h' a o)
  (n:G.h₀.get? a=aI/\X a=aI/\∀p∈S,p.1.frame≠aq a):Rep S X (upd H a o) h' where
 b:={
  g:=r.b.g
  base:=λb ob q=>hs b ob (λz=>by have q:=z▸q;have q:=n.1▸q;exact pB q) (r.b.base b ob q)
  sP:=λb ob q=>hs b ob (λz=>by have q:=z▸q;have q:=n.2.1▸q;exact pB q) (r.b.sP b ob q)
  obj:=λb ob q=>by
   by_cases z:b=a
   .subst z;rw[lT]at q;obtain rfl:=qz q;exact e
   .have q:=(lV z)▸q;exact(r.b.obj b ob q).mono λ_=>hs b _ z
  dj:=λb ob q m=>by
   by_cases z:b=a
   .subst z;exact⟨n.1,n.2.1⟩
   .let q:=(lV z)▸q;exact r.b.dj b ob q m}
 f:=λp hp=>by refine gu λP9 mG=>?_;obtain⟨a1,a2,L,a3,⟨sl,a4⟩,a5,a6,a7⟩:=r.f p hp;refine mG ?_;let z:L≠a:=λz=>n.2.2 p hp<|z▸a3;exact⟨a1,a2,L,a3,⟨sl,hs L _ z a4⟩,a5,a6,by rw[lV z];exact a7⟩
theorem Rep.alloc{o:Obj}{ao:AO}(r:Rep S X H h)(e:Enc (h.push o) h.objs.size ao):Rep S X (upd H h.objs.size ao) (h.push o):=
 let n:=Kn.no<|r.fresh<|mL h
 r.put (λ_ _ _ q=>bG o q) e ⟨n.1,n.2.1,n.2.2.2⟩
theorem Rep.mut(r:Rep S X H h){a:bp}{o:AO}(e:H a=aq o)(m:o.mut=af):G.h₀.get? a=aI/\X a=aI/\∀p∈S,p.1.frame≠aq a:=
 ⟨(r.b.dj a o e m).1,(r.b.dj a o e m).2,λp hp q=>by obtain⟨_,_,L,a3,_,_,_,a7⟩:=r.f p hp;have a3:=q▸a3;cases a3;have a7:=e▸a7;cases a7⟩
theorem Rep.change{a:bp}{o o':AO}(r:Rep S X H h)(e:H a=aq o)(m:o.mut=af)(hs:dW a h h')(e':Enc h' a o'):Rep S X (upd H a o') h':=
 r.put (λb _ z q=>(hs.2 b z).trans q) e' (r.mut e m)
theorem Rep.less{H':AH}(r:Rep S X H h)(l:∀a o,H' a=aq o->H a=aq o):Rep S X H' h where
 b:=⟨r.b.g,r.b.base,r.b.sP,λa o e=>r.b.obj a o<|l a o e,λa o e=>r.b.dj a o<|l a o e⟩
 f:=λp hp=>by
  obtain⟨a1,a2,L,a3,a4,a5,a6,a7⟩:=r.f p hp;refine⟨a1,a2,L,a3,a4,a5,a6,?_⟩;cases q:H' L with
  |none=>rfl
  |some o=>let:=l L o q;let this:=a7▸this;exact pB this
end
open Mine.Kn renaming no→gw
abbrev Loc:=List<|Option V
def getL:Loc->Nat->Option V
 |[],_=>aI
 |o::_,0=>o
 |_::r,n+1=>getL r n
def xh:Loc->Nat->V->Loc
 |[],_,_=>[]
 |_::r,0,v=>aq v::r
 |o::r,n+1,v=>o::xh r n v
theorem Gh(l:Loc):∀(i j:Nat)(v x:V),getL (xh l i v) j=aq x->(j=i/\x=v)∨(j≠i/\getL l j=aq x):=by
 induction l with
 |nil=>intro i j v x h;cases(show aI=aq x from h)
 |cons o r ih=>
  intro i j v x h;cases i with
  |zero=>cases j with
   |zero=>exact .inl ⟨rfl,(aB h).symm⟩
   |succ j=>exact .inr ⟨Nat.succ_ne_zero j,h⟩
  |succ i=>cases j with
   |zero=>exact .inr ⟨(Nat.succ_ne_zero i).symm,h⟩
   |succ j=>
    rcases ih i j v x h with⟨a,b⟩|⟨a,b⟩
    .exact .inl ⟨congrArg Nat.succ a,b⟩
    .exact .inr ⟨λz=>a<|Nat.succ.inj z,b⟩
def Own(lJ:Env):Prop:=lJ.frame=aq lJ.locals
def Rb(X:PX)(lJ:Env)(m:Str->Option aZ)(h:bL)(i:Nat)(v:V):Prop:=
 ∃x k,lJ.scope.names[i]?=aq (x,k)/\match k with
  |.local=>∃cv,m x=aq cv/\VR cv v
  |.cell=>∃c cv,lJ.cells.lookup x=aq c/\h.IsCell c (aq cv)/\VR cv v
  |_=>False
inductive NsR(X:PX)(lJ:Env)(lK:Loc)(h:bL):Prop where
 |mk(m:Str->Option aZ)(e:h.Ns lJ.locals m)(r:∀i v,getL lK i=aq v->Rb X lJ m h i v)
structure uC(S:rE)(X:PX)(lJ:Env)(lK:Loc)(H:AH)(h:bL):Prop where
 kind:lJ.scope.kind=.function
 Rc:lJ.globals=mainGlobals
 blt:lJ.builtins=builtinsNs
 nd:(lJ.scope.names.map (·.1)).Nodup
 own:G.h₀.get? lJ.locals=aI/\X lJ.locals=aI/\H lJ.locals=aI/\∀p∈S,p.1.frame≠aq lJ.locals
 ns:NsR X lJ lK h
 cl:Own lJ->∀x c,lJ.scope.names.lookup x=aq .cell->lJ.cells.lookup x=aq c->(∃v,h.IsCell c v)/\G.h₀.get? c=aI/\X c=aI/\H c=aI/\c≠lJ.locals/\∀p∈S,p.1.frame≠aq c
 NZ:Own lJ->∀x y c,lJ.scope.names.lookup x=aq .cell->lJ.scope.names.lookup y=aq .cell->lJ.cells.lookup x=aq c->lJ.cells.lookup y=aq c->x=y
 cx:¬Own lJ->∀x c,lJ.scope.names.lookup x=aq .cell->lJ.cells.lookup x=aq c->∃o,X c=aq o
 Lz:¬Own lJ->∀L,lJ.frame=aq L->∃o,X L=aq o
 VO:∀x,lJ.scope.names.lookup x=aq .cell->∃c,lJ.cells.lookup x=aq c
structure St(S:rE)(X:PX)(lJ:Env)(lK:Loc)(H:AH)(h:bL):Prop where
 r:Rep S X H h
 e:uC S X lJ lK H h
theorem mM{l:List (Str×bu)}(nd:(l.map (·.1)).Nodup):∀{i:Nat}{x:Str}{k:bu},l[i]?=aq (x,k)->l.lookup x=aq k:=by
 induction l with
 |nil=>intro i x k e;simp at e
 |cons p r ih=>
  obtain⟨y,j⟩:=p;simp only[bS,fE]at nd;intro i x k e;cases i with
  |zero=>simp only[List.getElem?_cons_zero,eJ,Prod.mk.injEq]at e;obtain⟨rfl,rfl⟩:=e;simp
  |succ i=>
   let e':r[i]?=aq (x,k):=by simpa using e
   have ne:(x==y)=ag:=by apply beq_eq_false_iff_ne.mpr;rintro rfl;exact nd.1<|dP (f:=(·.1))<|bR e'
   rw[cf,ne];exact ih nd.2 e'
theorem get_inj{l:List (Str×bu)}(nd:(l.map (·.1)).Nodup){i j:Nat}{x:Str}{k k':bu}(e:l[i]?=aq (x,k))(e':l[j]?=aq (x,k')):i=j:=by
 let a:(l.map (·.1))[i]?=aq x:=by refine bF cj▸?_;rw[e];rfl
 let b:(l.map (·.1))[j]?=aq x:=by refine bF cj▸?_;rw[e'];rfl
 let hi:=(bZ.mp a).1;let ai:=(bZ.mp a).2;let hj:=(bZ.mp b).1;let bj:=(bZ.mp b).2;exact(List.getElem_inj nd).mp (ai.trans bj.symm)
theorem oG{h h':bL}{c:bp}{v:Option aZ}(k:∀o,h.get? c=aq o->h'.get? c=aq o)(x:h.IsCell c v):h'.IsCell c v:=let⟨o,ho,r⟩:=x;⟨o,k o ho,r⟩
theorem EM{h h':bL}{a:bp}{m:Str->Option aZ}(k:∀o,h.get? a=aq o->h'.get? a=aq o)(x:h.Ns a m):h'.Ns a m:=let⟨o,es,ep,ho,r⟩:=x;⟨o,es,ep,k o ho,r⟩
def sQ(lJ:Env)(a:bp):Prop:=a=lJ.locals∨Own lJ/\∃x,lJ.scope.names.lookup x=aq .cell/\lJ.cells.lookup x=aq a
section
variable{S:rE}{X:PX}{lJ:Env}{lK:Loc}{H:AH}{h h':bL}
theorem Rb.keep{m:Str->Option aZ}{i:Nat}{v:V}(nd:(lJ.scope.names.map (·.1)).Nodup)(x:Rb X lJ m h i v)(k:∀a o,(∃x,lJ.scope.names.lookup x=aq .cell/\lJ.cells.lookup x=aq a)->h.get? a=aq o->h'.get? a=aq o):Rb X lJ m h' i v:=by
 obtain⟨x,kd,e,r⟩:=x;refine⟨x,kd,e,?_⟩;cases kd with
 |cell=>
  refine gu λP9 mG=>?_;obtain⟨c,cv,a,b,d⟩:=r;refine mG ?_;exact⟨c,cv,a,oG (λo=>k c o ⟨x,mM nd e,a⟩) b,d⟩
 |_=>exact r
theorem uC.cells(x:uC S X lJ lK H h){a:bp}(c:∃y,lJ.scope.names.lookup y=aq .cell/\lJ.cells.lookup y=aq a):sQ lJ a∨∃o,X a=aq o:=by
 obtain⟨y,e,e'⟩:=c;by_cases w:Own lJ
 .exact .inl (.inr ⟨w,y,e,e'⟩)
 .exact .inr (x.cx w y a e e')
theorem uC.keep(x:uC S X lJ lK H h)(k:∀a o,sQ lJ a∨(∃o,X a=aq o)->h.get? a=aq o->h'.get? a=aq o):uC S X lJ lK H h':=
 let⟨m,n,r⟩:=x.ns
 {x with
  ns:=⟨m,EM (λo=>k _ o<|.inl (.inl rfl)) n,λi v e=>(r i v e).keep x.nd λa o c=>k a o<|x.cells c⟩
  cl:=λw y c e e'=>let⟨⟨v,z⟩,z'⟩:=x.cl w y c e e';⟨⟨v,oG (λo=>k c o<|.inl (.inr ⟨w,y,e,e'⟩)) z⟩,z'⟩}
theorem uC.Bj(x:uC S X lJ lK H h){a:bp}(o:sQ lJ a):(∃ob,h.get? a=aq ob)/\G.h₀.get? a=aI/\X a=aI/\H a=aI/\∀p∈S,p.1.frame≠aq a:=by
 rcases o with rfl|⟨w,y,e,e'⟩
 .refine gu λP9 mG=>?_;obtain⟨m,⟨ob,_,_,ho,_⟩,_⟩:=x.ns;refine mG ?_;exact⟨⟨ob,ho⟩,x.own⟩
 .refine gu λP9 mG=>?_;obtain⟨⟨v,⟨ob,ho,_⟩⟩,z⟩:=x.cl w y a e e';refine mG ?_;exact⟨⟨ob,ho⟩,z.1,z.2.1,z.2.2.1,z.2.2.2.2⟩
theorem uC.N0{a:bp}{o:AO}(x:uC S X lJ lK H h)(n:¬sQ lJ a):uC S X lJ lK (upd H a o) h:=
 {x with
  own:=⟨x.own.1,x.own.2.1,by refine bF (lV λz=>n<|.inl z.symm)▸?_;exact x.own.2.2.1,x.own.2.2.2⟩
  cl:=λw y c e e'=>let z:=x.cl w y c e e';⟨z.1,z.2.1,z.2.2.1,by refine bF (lV (a:=a) (b:=c) λq=>n<|.inr ⟨w,y,e,q▸e'⟩)▸?_;exact z.2.2.2.1,z.2.2.2.2⟩}
theorem uC.less{H':AH}(x:uC S X lJ lK H h)(l:∀a o,H' a=aq o->H a=aq o):uC S X lJ lK H' h:=
 have z:∀a,H a=aI->H' a=aI:=λa e=>by
  cases q:H' a with
  |none=>rfl
  |some o=>let e:=(l a o q)▸e;exact rQ e
 {x with
  own:=⟨x.own.1,x.own.2.1,z _ x.own.2.2.1,x.own.2.2.2⟩
  cl:=λq y c e e'=>let w:=x.cl q y c e e';⟨w.1,w.2.1,w.2.2.1,z _ w.2.2.2.1,w.2.2.2.2⟩}
theorem St.keeps(x:St S X lJ lK H h)(k:∀a o,h.get? a=aq o->h'.get? a=aq o):St S X lJ lK H h':=⟨x.r.keeps k,x.e.keep λa o _=>k a o⟩
theorem St.push(x:St S X lJ lK H h)(o:Obj):St S X lJ lK H (h.push o):=x.keeps λ_ _ e=>bG o e
theorem St.less{H':AH}(x:St S X lJ lK H h)(l:∀a o,H' a=aq o->H a=aq o):St S X lJ lK H' h:=⟨x.r.less l,x.e.less l⟩
theorem St.alloc{o:Obj}{ao:AO}(x:St S X lJ lK H h)(e:Enc (h.push o) h.objs.size ao):St S X lJ lK (upd H h.objs.size ao) (h.push o):=by refine⟨x.r.alloc e,(x.push o).e.N0 λn=>?_⟩;obtain⟨⟨ob,q⟩,_⟩:=x.e.Bj n;rw[mL]at q;exact pB q
theorem St.made{a:bp}{ao:AO}(x:St S X lJ lK H h)(n:h.get? a=aI)(k:∀b o,h.get? b=aq o->h'.get? b=aq o)(e:Enc h' a ao):St S X lJ lK (upd H a ao) h':=by let z:=gw<|x.r.fresh n;refine⟨x.r.put (λb o _=>k b o) e ⟨z.1,z.2.1,z.2.2.2⟩,(x.keeps k).e.N0 λq=>?_⟩;obtain⟨⟨ob,q⟩,_⟩:=x.e.Bj q;let q:=n▸q;exact pB q
theorem St.qJ(x:St S X lJ lK H h){a:bp}(n:h.get? a=aI):H a=aI:=(gw<|x.r.fresh n).2.2.1
theorem St.change{a:bp}{o o':AO}(x:St S X lJ lK H h)(e:H a=aq o)(m:o.mut=af)(hs:dW a h h')(e':Enc h' a o'):St S X lJ lK (upd H a o') h':=by
 have no:∀b,sQ lJ b->b≠a:=λb n z=>by subst z;let:=(x.e.Bj n).2.2.2.1;let this:=e▸this;exact rQ this
 let nx:∀b,(∃o,X b=aq o)->b≠a:=λb⟨o,q⟩ z=>by subst z;let q:=(x.r.b.dj b _ e m).2▸q;exact pB q
 exact⟨x.r.change e m hs e',(x.e.keep λb ob n q=>(hs.2 b<|n.elim (no b)<|nx b).trans q).N0 λn=>no a n rfl⟩
theorem St.obj(x:St S X lJ lK H h){a:bp}{o:AO}(e:H a=aq o):Enc h a o:=x.r.b.obj a o e
theorem St.bindL{i:Nat}{x:Str}{cv:aZ}{v:V}(z:St S X lJ lK H h)(hi:lJ.scope.names[i]?=aq (x,.local))(hv:VR cv v)
  (hn:∀m,h.Ns lJ.locals m->h'.Ns lJ.locals (λy=>if y=x then aq cv else m y))(hs:dW lJ.locals h h'):St S X lJ (xh lK i v) H h':=by
 have kn:∀a,Kn S X H a->a≠lJ.locals:=λa k e=>by
  subst e;rcases k with⟨o,e⟩|⟨o,e⟩|⟨o,e⟩|⟨p,hp,e⟩
  .let e:=z.e.own.1▸e;exact pB e
  .let e:=z.e.own.2.1▸e;exact pB e
  .have e:=z.e.own.2.2.1▸e;exact pB e
  .exact z.e.own.2.2.2 p hp e
 have nc:∀y c,lJ.scope.names.lookup y=aq .cell->lJ.cells.lookup y=aq c->c≠lJ.locals:=λy c e e' q=>by
  by_cases w:Own lJ
  .exact(z.e.cl w y c e e').2.2.2.2.1 q
  .obtain⟨o,f⟩:=z.e.cx w y c e e';let f:=q▸f;let f:=z.e.own.2.1▸f;exact pB f
 refine⟨z.r.keep λa o k e=>(hs.2 a<|kn a k).trans e,{z.e with ns:=?_,cl:=?_}⟩
 .obtain⟨m,n,r⟩:=z.e.ns;refine⟨_,hn m n,λj u e=>?_⟩;rcases Gh lK i j v u e with⟨rfl,rfl⟩|⟨ne,e⟩
  .exact⟨x,.local,hi,cv,mZ rfl,hv⟩
  .obtain⟨y,kd,e',r'⟩:=r j u e;refine⟨y,kd,e',?_⟩;cases kd with
   |«local»=>
    obtain⟨cu,a,b⟩:=r';refine⟨cu,?_,b⟩;let q:y≠x:=λq=>ne<|get_inj z.e.nd e'<|q▸hi;exact(mT q).trans a
   |cell=>
    obtain⟨c,cu,a,b,d⟩:=r';exact⟨c,cu,a,oG (λo q=>(hs.2 c<|nc y c (mM z.e.nd e') a).trans q) b,d⟩
   |_=>exact r'
 .intro w y c e e';obtain⟨⟨v,a⟩,b⟩:=z.e.cl w y c e e';exact⟨⟨v,oG (λo q=>(hs.2 c b.2.2.2.1).trans q) a⟩,b⟩
theorem St.bindC{i:Nat}{x:Str}{cv:aZ}{v:V}{c:bp}(w:Own lJ)(z:St S X lJ lK H h)(hi:lJ.scope.names[i]?=aq (x,.cell))(hv:VR cv v)(hc:lJ.cells.lookup x=aq c)
  (hn:h'.IsCell c<|aq cv)(hs:dW c h h'):St S X lJ (xh lK i v) H h':=by
 let lx:=mM z.e.nd hi;have q:=z.e.cl w x c lx hc;have kn:∀a,Kn S X H a->a≠c:=λa k e=>by
  subst e;rcases k with⟨o,e⟩|⟨o,e⟩|⟨o,e⟩|⟨p,hp,e⟩
  .have e:=q.2.1▸e;exact pB e
  .have e:=q.2.2.1▸e;exact pB e
  .have e:=q.2.2.2.1▸e;exact pB e
  .exact q.2.2.2.2.2 p hp e
 refine⟨z.r.keep λa o k e=>(hs.2 a<|kn a k).trans e,{z.e with ns:=?_,cl:=?_}⟩
 .obtain⟨m,n,r⟩:=z.e.ns;refine⟨m,EM (λo e=>(hs.2 _<|Ne.symm q.2.2.2.2.1).trans e) n,λj u e=>?_⟩;rcases Gh lK i j v u e with⟨rfl,rfl⟩|⟨ne,e⟩
  .exact⟨x,.cell,hi,c,cv,hc,hn,hv⟩
  .obtain⟨y,kd,e',r'⟩:=r j u e;refine⟨y,kd,e',?_⟩;cases kd with
   |cell=>
    refine gu λP9 mG=>?_;obtain⟨d,cu,a,b,f⟩:=r';refine mG ?_;refine⟨d,cu,a,oG (λo q=>(hs.2 d λz'=>?_).trans q) b,f⟩;subst z';let:=z.e.NZ w x y d lx (mM z.e.nd e') hc a;subst this;exact ne (get_inj z.e.nd e' hi)
   |_=>exact r'
 .intro w y d e e';obtain⟨⟨v,a⟩,b⟩:=z.e.cl w y d e e';by_cases w:d=c
  .subst w;exact⟨⟨_,hn⟩,b⟩
  .exact⟨⟨v,oG (λo q=>(hs.2 d w).trans q) a⟩,b⟩
end
def DY(n:Nat)(S:rE)(lJ:Env)(A:Around):Prop:=
 (A.units+100*n+300<=cLine/\A.depth+10*n+5<=recursionLimit/\A.guards=aq []/\A.handled=aI)/\(0<n->A.frames=aq (lJ::S.map (·.1))/\lJ.frame=aq lJ.locals)
inductive Way(h B:bL)(e:bp)(cls:aZ)(L:bp):Prop where
 |new(oe:Obj)(vs:Array aZ)(a0:aZ):h.get? e=aq oe->oe.cls=cls->oe.data=.fields vs->vs[1]?=aq .none->vs[0]?=aq a0->Way h B e cls L
 |on(a0:aZ):h.TracedW B e cls a0->Way h B e cls L
 |held(a0:aZ):h.TracedAtW B e cls a0 (rawInt L)->Way h B e cls L
structure Wm(B:bL)(l:List Env)(e:bp)(h:bL):Prop where
 stays:B.StaysIn h
 fresh:B.get? e=aI
 fr:h.FunFrames B l
def Zi(S:rE)(X:PX)(lJ:Env)(H':AH):Prop:=G.h₀.get? lJ.locals=aI/\X lJ.locals=aI/\H' lJ.locals=aI/\∀p∈S,p.1.frame≠aq lJ.locals
inductive vi(S:rE)(X:PX)(lJ:Env)(E:AH->Prop)(W:bL->bL->bp->Prop)(e:aZ)(s:bh):Prop where
 |mk [sm:oz s] (ae:bp) (H':AH) (B:bL) (e1:e=.ref ae) (r:It X H' B) (f:VN S X H' s.heap) (l:Zi S X lJ H') (n:∃m,s.heap.Ns lJ.locals m)
  (t:Wm B (lJ::S.map (·.1)) ae s.heap) (w:W s.heap B ae) (p:E H')
abbrev sR(lJ:Env):bL->bL->bp->Prop:=λh B e=>Way h B e (.ref G.bad) lJ.locals
abbrev AU(lJ:Env):bL->bL->bp->Prop:=λh B e=>∃a0,h.TracedAtW B e (.ref G.bad) a0<|rawInt lJ.locals
theorem vi.sm{S:rE}{X:PX}{lJ:Env}{E:AH->Prop}{W:bL->bL->bp->Prop}{e:aZ}{s:bh}(x:vi S X lJ E W e s):oz s:=by cases x;assumption
inductive Wn(S:rE)(X:PX)(E:AH->Prop)(e:aZ)(s:bh):Prop where
 |mk(sm:oz s)(ae:bp)(H':AH)(B:bL)(a0:aZ)(e1:e=.ref ae)(r:It X H' B)(f:VN S X H' s.heap)(w:Heap.FlyingW B (S.map (·.1)) ae (.ref G.bad) a0 s.heap)(p:E H')
inductive PQ(S:rE)(X:PX)(lJ:Env)(s:bh)(P:Loc->AH->Prop):Prop
 |mk(l:Loc)(H:AH) [sm:oz s] (st:St S X lJ l H s.heap) (p:P l H):PQ S X lJ s P
def PR{α:Type}(S:rE)(X:PX)(lJ:Env)(P:α->Loc->AH->Prop)(a:α)(s:bh):Prop:=PQ S X lJ s<|P a
def Rd(n:Nat)(S:rE)(X:PX)(lJ:Env)(E:AH->Prop)(e:aZ)(s:bh):Prop:=0<n/\vi S X lJ E (sR lJ) e s
def Tr{α:Type}(n:Nat)(lJ:Env)(t:Sem α)(lK:Loc)(H:AH)(P:α->Loc->AH->Prop)(E:AH->Prop):Prop:=
 ∀S X A s,DY n S lJ A->St S X lJ lK H s.heap->[oz s]->
  nV (0<n) G.M A t (PR S X lJ P) (Rd n S X lJ E) s
section
variable{n:Nat}{lJ:Env}{lK:Loc}{H:AH}{E:AH->Prop}{α β:Type}
theorem Tr.pure{a:α}{P:α->Loc->AH->Prop}(h:P a lK H):Tr n lJ (dD a) lK H P E:=λ_ _ _ _ _ st=>m9 ⟨lK,H,st,h⟩
theorem Tr.gf{m:Sem α}{P:α->Loc->AH->Prop}(h:GF G->Tr n lJ m lK H P E):Tr n lJ m lK H P E:=λS X A s ok st=>h st.r.b.g S X A s ok st
theorem Tr.bind{m:Sem α}{f:α->Sem β}{P:β->Loc->AH->Prop}(h:Tr n lJ m lK H (λa EN H'=>Tr n lJ (f a) EN H' P E) E):Tr n lJ (m>>=f) lK H P E:=
 λS X A s ok st=>mi<|pk (h S X A s ok st) (λ_ _(.mk _ _ (sm:=_) nA h')=>h' S X A _ ok nA) λ_ _ x=>x
theorem Tr.mono{m:Sem α}{P P':α->Loc->AH->Prop}(h:Tr n lJ m lK H P E)(hP:∀a l H',P a l H'->P' a l H'):Tr n lJ m lK H P' E:=
 λS X A s ok st=>pk (h S X A s ok st) (λ_ _(.mk l H' (sm:=_) nA h')=>⟨l,H',nA,hP _ _ _ h'⟩) λ_ _ x=>x
theorem Tr.holding{vs:List aZ}{m:Sem α}{P:α->Loc->AH->Prop}(h:Tr n lJ m lK H P E):Tr n lJ (holding vs m) lK H P E:=λS X A s ok st=>nN<|h S X A s ok st
theorem Tr.standAt{pos:Pos}{P:Unit->Loc->AH->Prop}(h:P () lK H):Tr n lJ (standAt pos) lK H P E:=λ_ _ _ _ _ st=>gs<|cp ⟨lK,H,st,h⟩
theorem Tr.point{P:Unit->Loc->AH->Prop}(h:P () lK H):Tr n lJ point lK H P E:=λ_ _ _ _ _ st=>gs<|fQ ⟨lK,H,st,h⟩
theorem Tr.rule{t:String}{P:Unit->Loc->AH->Prop}(h:P () lK H):Tr n lJ (PySem.rule t) lK H P E:=λ_ _ _ _ _ st=>gs<|fh ⟨lK,H,st,h⟩
end
theorem Tr.leaf{n:Nat}{lJ:Env}{lK:Loc}{H:AH}{E:AH->Prop}{α:Type}{m:Sem α}{P:α->Loc->AH->Prop}
  (h:∀S X A s,DY n S lJ A->St S X lJ lK H s.heap->[oz s]->wpAny G.M A m (PR S X lJ P) (Rd n S X lJ E) s):Tr n lJ m lK H P E:=
 λS X A s ok st=>.of (h S X A s ok st)
inductive VQ(lK:Loc)(Q:V->AH->Prop)(v:aZ)(l:Loc)(H:AH):Prop where
 |mk(e:l=lK)(x:V)(r:VR v x)(q:Q x H)
section
variable{S:rE}{X:PX}{lJ:Env}{H:AH}{h h' B:bL}{l:List Env}{e L:bp}
theorem vj(f:VN S X H h)(k:h.UpToSlots h'):VN S X H h':=λp hp=>by
 obtain⟨a1,⟨es,n,a2⟩,L,a3,⟨sl,a4⟩,a5⟩:=f p hp;obtain⟨sl',q⟩:=k L _ a4 λvs q=>by have q:=(show({p.2 with slots:=sl}:Obj).data=p.2.data from rfl)▸q;have q:=a2▸q;cases q
 exact⟨a1,⟨es,n,a2⟩,L,a3,⟨sl',q⟩,a5⟩
theorem Gi(f:VN S X H h)(hB:∀p∈S,∀L,p.1.frame=aq L->B.get? L=aI):h.FunFrames B (S.map (·.1)):=by
 induction S with
 |nil=>trivial
 |cons p S ih=>
  refine gu λP9 mG=>?_;obtain⟨a1,⟨es,n,a2⟩,L,a3,⟨sl,a4⟩,a5⟩:=f p<|.head _;refine mG ?_;refine⟨by rw[a1];decide,⟨L,_,a3,hB p (.head _) L a3,a4,λvs q=>?_⟩,ih (λq hq=>f q<|.tail _ hq) λq hq=>hB q<|.tail _ hq⟩;have q:=(show({p.2 with slots:=sl}:Obj).data=p.2.data from rfl)▸q;have q:=a2▸q;cases q
end
section
variable{S:rE}{X:PX}{lJ:Env}{E:AH->Prop}{M:Model}{A:Around}{E':aZ->bh->Prop}
theorem Bl{base:bL}{l:List Env}{e L:bp}{cls a0 fl:aZ}{Q:Unit->bh->Prop}{s:bh}
  (hkb:base.StaysIn s.heap)(hl:s.heap.FunFrames base l)(ht:s.heap.TracedAtW base e cls a0 fl)
  (h:∀h',base.StaysIn h'->h'.FunFrames base l->h'.TracedAtW base e cls a0 (rawInt L)->s.heap.UpToSlots h'->Q () {s with heap:=h'}):
  wpAny M A (setFlight (.ref e)<|aq L) Q E' s:=by
 refine gu λP9 mG=>?_;obtain⟨oe,vs,T,oT,ts,he,Re,hd,h1,hnT,hTe,hT,Yu,h3⟩:=ht;refine mG ?_;have Wo:3<ts.size:=(et.mp h3).1;have other:∀b,b≠T->(s.heap.update T<|Obj.mapFields (·.setIfInBounds 3 ((aq L:Option bp).elim Value.none λf=>rawInt f))).get? b=s.heap.get? b:=
  λb hb=>dw _ _<|Ne.symm hb
 have Gj:∀b o,s.heap.get? b=aq o->(∀vs,o.data≠.fields vs)->b≠T:=λb o hb Wp q=>by have hb:=q▸hb;let hb:=hT▸hb;injection hb with hb;subst hb;exact Wp ts Yu
 unfold setFlight;refine aY<|df he hd h1 ?_;refine bF (mZ (show(Value.ref T !=Value.none)=af from by simp))▸?_;refine wpAny_setField hT Yu Wo (h _ (λb o VP=>(other b λq=>by let VP:=q▸VP;let VP:=hnT▸VP;exact pB VP).trans (hkb b o VP))
  (hl.of_keeps λb o hb Wp=>⟨o,(other b<|Gj b o hb Wp).trans hb,rfl⟩) ?_ λb o hb Wp=>⟨o.slots,(other b<|Gj b o hb Wp).trans hb⟩)
 exact⟨oe,vs,T,_,_,(other e<|Ne.symm hTe).trans he,Re,hd,h1,hnT,hTe,cB _ hT<|Obj.isFreed_of_fields<|Obj.data_mapFields Yu _,Obj.data_mapFields Yu _,by simp[Wo]⟩
theorem Bm{s:bh}{e:aZ}(hf:A.frames=aq (lJ::S.map (·.1)))(hl:lJ.frame=aq lJ.locals)(x:vi S X lJ E (sR lJ) e s):
  wpAny M A (noteFrame e lJ) (λ_ s'=>vi S X lJ E (AU lJ) e s') E' s:=by
 obtain⟨ae,H',B,rfl,a2,a3,a4,⟨m,a5⟩,⟨b1,b2,b3⟩,w,a7⟩:=x;cases w with
 |new oe vs a0 he hc hd h1 h0=>
  unfold noteFrame;simp only[hl];refine aY<|df he hd h1 ?_;rw[mT ("")];refine wpAny_entryW hf b3 hl he b1 b2 hd (et.mp h1).1 h0 λh' hN=>?_;let k1:=hN.1;let k2:=hN.2.1;let k3:=hN.2.2.1;let k4:=hN.2.2.2;exact⟨ae,H',B,rfl,a2,vj a3 k4,a4,⟨m,Heap.UpToSlots.ns k4 a5⟩,⟨k1,b2,k2⟩,⟨a0,by rw[<-hc];exact k3⟩,a7⟩
 |on a0 ht=>
  refine wpAny_noteFrame_onW hf b3 hl ht b1 b2 λh' hN=>?_;let k1:=hN.1;let k2:=hN.2.1;let k3:=hN.2.2.1;let k4:=hN.2.2.2;exact⟨ae,H',B,rfl,a2,vj a3 k4,a4,⟨m,Heap.UpToSlots.ns k4 a5⟩,⟨k1,b2,k2⟩,⟨a0,k3⟩,a7⟩
 |held a0 ht=>exact wpAny_noteFrame_againW hl ht ⟨ae,H',B,rfl,a2,a3,a4,⟨m,a5⟩,⟨b1,b2,b3⟩,⟨a0,ht⟩,a7⟩
theorem wS{s:bh}{e:aZ}(x:vi S X lJ E (AU lJ) e s):
  wpAny M A (setFlight e aI) (λ_ s'=>vi S X lJ E (λh B ae=>∃a0,h.TracedW B ae (.ref G.bad) a0) e s') E' s:=by
 obtain⟨ae,H',B,rfl,a2,a3,a4,⟨m,a5⟩,⟨b1,b2,b3⟩,⟨a0,w⟩,a7⟩:=x;refine wpAny_setFlight_noneW b1 b3 w λh' k1 k2 k3 k4=>?_;let k:s.heap.UpToSlots h':=λb o hb hn=>⟨o.slots,k4 b o hb hn⟩;exact⟨ae,H',B,rfl,a2,vj a3 k,a4,⟨m,k.ns a5⟩,⟨k1,b2,k2⟩,⟨a0,k3⟩,a7⟩
theorem N1{s:bh}{e:aZ}(hl:lJ.frame=aq lJ.locals)(x:vi S X lJ E (AU lJ) e s):
  cameBackBy M A lJ (λe s'=>vi S X lJ E (sR lJ) e s') e s:=by
 obtain⟨ae,H',B,rfl,a2,a3,a4,⟨m,a5⟩,⟨b1,b2,b3⟩,⟨a0,w⟩,a7⟩:=x;unfold cameBackBy;refine gu λP9 mG=>?_;obtain⟨oe,vs,T,oT,ts,he,Re,hd,h1,r⟩:=id w;refine mG ?_;refine aY<|df he hd h1 ?_;rw[mT (by simp),hl];refine Bl b1 b3 w λh' k1 k2 k3 k=>?_;exact⟨ae,H',B,rfl,a2,vj a3 k,a4,⟨m,k.ns a5⟩,⟨k1,b2,k2⟩,.held a0 k3,a7⟩
theorem LB{s:bh}{e:aZ}(hf:A.frames=aq (lJ::S.map (·.1)))(hl:lJ.frame=aq lJ.locals)(x:vi S X lJ E (sR lJ) e s):
  wpAny M A (leaving lJ e) (λ_ s'=>Wn S X E e s') E' s:=by
 unfold leaving;refine aY<|bI (Bm hf hl x) (λ_ s' x'=>?_) λ_ _ q=>q;refine bI (wS x') (λ_ Lu Zj=>?_) λ_ _ q=>q;obtain⟨ae,H',B,rfl,a2,a3,a4,a5,⟨b1,b2,⟨_,_,b3⟩⟩,⟨a0,w⟩,a7⟩:=Zj;exact⟨inferInstance,ae,H',B,a0,rfl,a2,a3,⟨b1,b2,b3,w⟩,a7⟩
end
open Mine.Tr renaming bind→gx,standAt→gy,leaf→gz,holding→gA,pure→gB,mono→gC
def Yv(n:Nat)(S:rE)(A:Around):Prop:=
 A.units+100*n+320<=cLine/\A.handled=aI/\A.depth+10*n+6<=recursionLimit/\A.frames=aq (S.map (·.1))/\A.guards=aq []
inductive Wq(S:rE)(X:PX)(Q:V->AH->Prop)(v:aZ)(s:bh):Prop where
 |mk(sm:oz s)(x:V)(H':AH)(v:VR v x)(r:Rep S X H' s.heap)(q:Q x H')
def xM(S:rE)(X:PX)(Q:V->AH->Prop)(E:AH->Prop)(r:Result)(s':bh):Prop:=match r with
 |.ok (.ret v)=>Wq S X Q v s'
 |.ok _=>False
 |.error e=>Wn S X E e s'
def mH(n:Nat)(f:aZ)(args:List V)(H:AH)(Q:V->AH->Prop)(E:AH->Prop):Prop:=
 ∀S X A s vs,Yv n S A->Rep S X H s.heap->oB vs args->[oz s]->oP True G.M A (.call f ⟨vs,[]⟩) (xM S X Q E) s
theorem mH.mono{n:Nat}{f:aZ}{args:List V}{H:AH}{Q Q':V->AH->Prop}{E E':AH->Prop}(c:mH n f args H Q E)(hQ:∀x H,Q x H->Q' x H)(hE:∀H,E H->E' H):mH n f args H Q' E':=
 λS X A s vs ok r v=>qe (c S X A s vs ok r v) λr s' h=>by
  rcases r with e|(w|_|_|_)
  .obtain⟨h0,ae,H',B,a0,h1,h2,h3,h4,h5⟩:=h;exact⟨h0,ae,H',B,a0,h1,h2,h3,h4,hE _ h5⟩
  .exact h
  .exact h
  .exact h
  .obtain⟨h0,x,H',h1,h2,h3⟩:=h;exact⟨h0,x,H',h1,h2,hQ _ _ h3⟩
def FR(f:Flow)(x:V):Prop:=match f with
 |.ret v=>VR v x
 |_=>x=.none
inductive FQ(Q:V->AH->Prop)(f:Flow)(l:Loc)(H:AH):Prop where
 |mk(x:V)(r:FR f x)(q:Q x H)
def S0(names:List<|Str×bu)(binds:List<|Str×aZ)(lK:Loc):Prop:=
 (∀x∈binds,names.lookup x.1=aq .local∨names.lookup x.1=aq .cell)/\∀i v,getL lK i=aq v->∃x k cv,names[i]?=aq (x,k)/\(k=.local∨k=.cell)/\binds.reverse.lookup x=aq cv/\VR cv v
theorem LC{kindOf:Str->Option bu}{y:Str}(hy:kindOf y=aq .local)(binds:List<|Str×aZ):∀(m:Str->Option aZ),bindL kindOf binds m y=(binds.reverse.lookup y).or (m y):=by
 induction binds with
 |nil=>intro m;simp[bindL]
 |cons p r ih=>
  intro m;obtain⟨x,v⟩:=p;unfold bindL;rw[ih _,du,List.lookup_append];cases r.reverse.lookup y with
  |some u=>simp
  |none=>
   simp only[Option.none_or,cf,List.lookup_nil];by_cases e:y=x
   .subst e;simp[hy]
   .rw[beq_eq_false_iff_ne.mpr e];split<;>simp[e]
theorem LD{kindOf:Str->Option bu}{y:Str}(hy:kindOf y=aq .cell)(binds:List<|Str×aZ):∀(m:Str->Option aZ),PySem.bindC kindOf binds m y=(binds.reverse.lookup y).or (m y):=by
 induction binds with
 |nil=>intro m;simp[PySem.bindC]
 |cons p r ih=>
  intro m;obtain⟨x,v⟩:=p;unfold PySem.bindC;rw[ih _,du,List.lookup_append];cases r.reverse.lookup y with
  |some u=>simp
  |none=>
   simp only[Option.none_or,cf,List.lookup_nil];by_cases e:y=x
   .subst e;simp[hy]
   .rw[beq_eq_false_iff_ne.mpr e];split<;>simp[e]
section
variable{n:Nat}{H:AH}{E:AH->Prop}{Q:V->AH->Prop}{f:bp}{oc:aZ}{od:Option bp}{osl:Array (Option aZ)}{fd:FuncData}{body:List gd}{args:List V}{lK:Loc}
theorem N2{m:Nat}(hK:G.K.lookup f=aq ⟨oc,od,.func fd,osl⟩)(Wr:codeIn G.K fd.code fd.qualname=af)(hg:fd.globals=mainGlobals)(hb:fd.builtins=builtinsNs)(Zk:fd.closure=[])(NU:fd.body=.stmts body)
  (Y6:fd.scope.isCoroutine=ag)(TT:fd.scope.isGenerator=ag)(hk:fd.scope.kind=.function)(S1:(fd.scope.names.map (·.1)).Nodup)
  (Ws:∀vs(s:bh),oB vs args->G.K.In s.heap->∃binds,BindsTo s fd ⟨vs,[]⟩ binds/\S0 fd.scope.names binds lK)
  (h:∀lJ,lJ.scope=fd.scope->Tr m lJ (execs body lJ) lK H (FQ Q) E):∀S X A s vs,Yv m S A->Rep S X H s.heap->oB vs args->[oz s]->oP (0<m) G.M A (.call (.ref f) ⟨vs,[]⟩) (xM S X Q E) s:=by
 intro S X A s vs ok r qG _;refine gu λP9 mG=>?_;obtain⟨binds,hB,Zl,Wt⟩:=Ws vs s qG<|r.b.g.KX.keeps r.b.base;refine mG ?_;have KX:G.K.In s.heap:=r.b.g.KX.keeps r.b.base;have Zm:A.depth<recursionLimit:=by let:=ok.2.2.1;exact("*va|=UPpe__f<?(^&#",this)
 refine Iq Zm (KX _ _ hK) rfl Y6 TT NU (codeRec_of KX Wr)<|hB _ _ _ _ ?_;rw[Zk];have cs:∀y,fd.scope.names.lookup y=aq .cell->((cellsFrom (s.heap.objs.size+1) fd.scope.names []).lookup y).isSome=af:=λy e1=>cellsFrom_some (x:=y) fd.scope.names (s.heap.objs.size+1) []<|.inl e1;refine wpAny_newFunctionEnv_cells hk (λx hx=>(Zl x hx).imp id λe=>⟨e,cs _ e⟩) λlJ he s' x=>?_;let sm':oz s':=by obtain⟨h,tk,rfl⟩:=x.toInCall.same;infer_instance
 refine⟨(r.b.g.T.nolimit.keeps r.b.base).keeps x.toInCall.keep,Ip ?_⟩;have Rf:lJ.scope=fd.scope:=by rw[he];rfl
 have hL:lJ.locals=s.heap.objs.size:=by rw[he];rfl
 have TY:lJ.frame=aq lJ.locals:=by rw[he];rfl
 have xi:lJ.cells=cellsFrom (s.heap.objs.size+1) fd.scope.names []:=by rw[he];rfl
 let r':Rep S X H s'.heap:=r.keeps x.toInCall.keep;have TZ:∀a,s.heap.objs.size<=a->s.heap.get? a=aI:=λa ha=>by
  cases q:s.heap.get? a with
  |none=>rfl
  |some o=>exact absurd (bQ q)<|fi.mpr ha
 let kno:∀a,s.heap.objs.size<=a->G.h₀.get? a=aI/\X a=aI/\H a=aI/\∀p∈S,p.1.frame≠aq a:=λa ha=>gw<|r.fresh<|TZ a ha;let e:uC S X lJ lK H s'.heap:={
  kind:=by rw[Rf];exact hk
  Rc:=by rw[he];exact hg
  blt:=by rw[he];exact hb
  nd:=by rw[Rf];exact S1
  own:=kno _ (by rw[hL];exact dg _)
  ns:=by
   refine⟨_,x.toInCall.ns,λi v q=>?_⟩;refine gu λP9 mG=>?_;obtain⟨y,k,cv,e1,hk,e2,e3⟩:=Wt i v q;refine mG ?_;refine⟨y,k,by rw[Rf];exact e1,?_⟩;let ek:lJ.kindOf y=aq k:=by show lJ.scope.names.lookup _=_;rw[Rf];exact mM S1 e1
   rcases hk with rfl|rfl
   .refine⟨cv,?_,e3⟩;rw[LC ek];show(binds.reverse.lookup y).or aI=aq cv;rw[e2];rfl
   .obtain⟨c,hc⟩:=bN.mp (cs y<|mM S1 e1);let hc:=bF (xi)▸hc;refine⟨c,cv,hc,?_,e3⟩;let:=x.cell y c hc;rw[LD ek,e2]at this;exact this
  cl:=λ_ y c e1 e2=>by let hm:=x.above y c (mem_of_lookup e2);let:=kno c (by let hm:=hL▸hm;exact Nat.le_of_lt hm);exact⟨⟨_,x.cell y c e2⟩,this.1,this.2.1,this.2.2.1,dX hm,this.2.2.2⟩
  NZ:=λ_ y z c _ _ e3 e4=>name_of_addr x.apart (mem_of_lookup e3) (mem_of_lookup e4)
  cx:=λw=>(w TY).elim
  Lz:=λw=>(w TY).elim
  VO:=λy e1=>by rw[xi];exact bN.mp (cs y (by refine Rf▸?_;exact e1))}
 have Wu:(A.deeper lJ).frames=aq (lJ::S.map (·.1)):=Around.frames_deeper ok.2.2.2.1;let VS:DY m S lJ (A.deeper lJ):=by
  refine⟨⟨?_,?_,ok.2.2.2.2,ok.2.1⟩,λ_=>⟨Wu,TY⟩⟩
  .have:=ok.1;show A.units+3+_+300<=cLine;exact("(z&XxD>kM--&9Uo#`IW-v[lXo>0&#",this)
  .have:=ok.2.2.1;show A.depth+1+_+5<=recursionLimit;exact("%sYh0XlZ5f{C%-k=_+Rl8&#",this)
 refine pk (h lJ Rf S X _ s' VS ⟨r',e⟩) (λfl Lu Lv=>?_) λev Lu Lv=>?_
 .obtain⟨l',H',nA,x',hx,hq⟩:=Lv;refine⟨inferInstance,x',H',?_,nA.r,hq⟩;cases fl<;>first|exact hx|(cases hx;exact .none)
 .exact gs<|LB Wu TY Lv.2
def AV(f:aZ)(args:List V)(H:AH)(Q:V->AH->Prop):Prop:=
 ∀S X A s vs,Yv 0 S A->Rep S X H s.heap->oB vs args->[oz s]->codeAny G.M A (.call f ⟨vs,[]⟩) (xM S X Q λ_=>False) s
end
noncomputable def Gk(lJ:Env)(h:bL)(X:PX):PX:=λa=>open Classical in if(∃x,lJ.scope.names.lookup x=aq .cell/\lJ.cells.lookup x=aq a)then h.get? a else X a
section
variable{n:Nat}{H:AH}{E:AH->Prop}{Q:V->AH->Prop}{S:rE}{X:PX}{lJ:Env}{lK:Loc}{h h':bL}
theorem xj{a:bp}(c:∃x,lJ.scope.names.lookup x=aq .cell/\lJ.cells.lookup x=aq a):Gk lJ h X a=h.get? a:=mZ c
theorem vk{a:bp}(c:¬∃x,lJ.scope.names.lookup x=aq .cell/\lJ.cells.lookup x=aq a):Gk lJ h X a=X a:=mT c
theorem sY{a:bp}{o:Obj}(w:Own lJ)(st:St S X lJ lK H h)(e:X a=aq o):Gk lJ h X a=aq o:=by
 by_cases c:∃x,lJ.scope.names.lookup x=aq .cell/\lJ.cells.lookup x=aq a
 .obtain⟨x,e1,e2⟩:=c;let e:=(st.e.cl w x a e1 e2).2.2.1▸e;exact pB e
 .rw[vk c];exact e
theorem St.N3(st:St S X lJ lK H h)(hf:lJ.frame=aq lJ.locals):∃oL,h.get? lJ.locals=aq oL/\Rep ((lJ,oL)::S) (Gk lJ h X) H h:=by
 refine gu λP9 mG=>?_;obtain⟨m,⟨oL,es,ep,Kx,hd,_⟩,_⟩:=st.e.ns;refine mG ?_;let nl:¬∃x,lJ.scope.names.lookup x=aq .cell/\lJ.cells.lookup x=aq lJ.locals:=λ⟨x,e1,e2⟩=>(st.e.cl hf x _ e1 e2).2.2.2.2.1 rfl;refine⟨oL,Kx,⟨⟨st.r.b.g,st.r.b.base,λa o q=>?_,st.r.b.obj,λa o q m=>?_⟩,λp hp=>?_⟩⟩
 .by_cases c:∃x,lJ.scope.names.lookup x=aq .cell/\lJ.cells.lookup x=aq a
  .let q:=(xj c)▸q;exact q
  .let q:=(vk c)▸q;exact st.r.b.sP a o q
 .refine⟨(st.r.b.dj a o q m).1,?_⟩;by_cases c:∃x,lJ.scope.names.lookup x=aq .cell/\lJ.cells.lookup x=aq a
  .obtain⟨x,e1,e2⟩:=c;let q:=(st.e.cl hf x a e1 e2).2.2.2.1▸q;exact pB q
  .rw[vk c];exact(st.r.b.dj a o q m).2
 .rcases aA.mp hp with rfl|hp
  .exact⟨st.e.kind,⟨es,ep,hd⟩,lJ.locals,hf,⟨oL.slots,Kx⟩,st.e.own.1,by rw[vk nl];exact st.e.own.2.1,st.e.own.2.2.1⟩
  .refine gu λP9 mG=>?_;obtain⟨a1,a2,L,a3,a4,a5,a6,a7⟩:=st.r.f p hp;refine mG ?_;refine⟨a1,a2,L,a3,a4,a5,?_,a7⟩;by_cases c:∃x,lJ.scope.names.lookup x=aq .cell/\lJ.cells.lookup x=aq L
   .obtain⟨x,e1,e2⟩:=c;exact((st.e.cl hf x L e1 e2).2.2.2.2.2 p hp a3).elim
   .rw[vk c];exact a6
theorem St.N4{H':AH}{oL:Obj}(st:St S X lJ lK H h)(Kx:h.get? lJ.locals=aq oL)(hf:lJ.frame=aq lJ.locals)(r:Rep ((lJ,oL)::S) (Gk lJ h X) H' h'):St S X lJ lK H' h':=by
 have up:∀a o,X a=aq o->h'.get? a=aq o:=λa o q=>r.b.sP a o<|sY hf st q;have cells:∀x c,lJ.scope.names.lookup x=aq .cell->lJ.cells.lookup x=aq c->∀o,h.get? c=aq o->h'.get? c=aq o:=λx c e1 e2 o q=>r.b.sP c o (by rw[xj ⟨x,e1,e2⟩];exact q);obtain⟨_,⟨Wv,n0,T0⟩,L,a3,⟨sl,a4⟩,a5,a6,a7⟩:=r.f (lJ,oL)<|.head _;have a3:=hf▸a3;obtain rfl:=qz a3;refine⟨⟨⟨r.b.g,r.b.base,up,r.b.obj,λa o q m=>⟨(r.b.dj a o q m).1,?_⟩⟩,λp hp=>?_⟩,{st.e with own:=?_,ns:=?_,cl:=?_,cx:=λw=>(w hf).elim,Lz:=λw=>(w hf).elim}⟩
 .cases q':X a with
  |none=>rfl
  |some o'=>let:=(r.b.dj a o q m).2;let this:=(sY hf st q')▸this;exact rQ this
 .obtain⟨a1,a2,L,a3,a4,a5,a6,a7⟩:=r.f p (.tail _ hp);refine⟨a1,a2,L,a3,a4,a5,?_,a7⟩;cases q':X L with
  |none=>rfl
  |some o'=>let a6:=(sY hf st q')▸a6;exact rQ a6
 .exact⟨st.e.own.1,st.e.own.2.1,a7,st.e.own.2.2.2⟩
 .obtain⟨m,⟨o1,es,ep,Nv,Zn,r1⟩,r2⟩:=st.e.ns;have Nv:=Kx▸Nv;obtain rfl:=qz Nv;refine⟨m,⟨_,es,ep,a4,Zn,r1⟩,λi v q=>?_⟩;obtain⟨x,k,e1,e2⟩:=r2 i v q;refine⟨x,k,e1,?_⟩;cases k with
  |cell=>
   refine gu λP9 mG=>?_;obtain⟨c,cv,b1,b2,b3⟩:=e2;refine mG ?_;exact⟨c,cv,b1,oG (cells x c (mM st.e.nd e1) b1) b2,b3⟩
  |_=>exact e2
 .intro _ x c e1 e2;refine gu λP9 mG=>?_;obtain⟨⟨v,b1⟩,b2,b3,b4,b5,b6⟩:=st.e.cl hf x c e1 e2;refine mG ?_;let b1':=oG (cells x c e1 e2) b1;refine⟨⟨v,b1'⟩,b2,b3,?_,b5,b6⟩;cases q:H' c with
  |none=>rfl
  |some o=>
   obtain⟨oc,VT,QN⟩:=b1;cases o with
   |tup xs=>
    obtain⟨vs,nn,Zo,_⟩:=r.b.obj c _ q;let Zo:=(cells x c e1 e2 oc VT)▸Zo;obtain rfl:=(qz Zo).symm;cases QN
   |_=>
    have:=(r.b.dj c _ q rfl).2;let this:=(xj ⟨x,e1,e2⟩)▸this;let this:=VT▸this;exact rQ this
theorem Tr.call{f:aZ}{vs:List aZ}{args:List V}(hc:mH n f args H Q E)(hv:oB vs args):Tr (n+1) lJ (cq f vs) lK H (VQ lK Q) E:=by
 intro S X A s ok st oS;let o1:=ok.1.1;let q2:=ok.1.2.1;let og:=ok.1.2.2.1;let q1:=ok.1.2.2.2;let o2:=ok.2;obtain⟨q3,q4⟩:=o2<|aQ _;obtain⟨oL,Kx,r⟩:=st.N3 q4;refine rS<|qe (oP.to (aQ n)<|hc ((lJ,oL)::S) _ A s vs ⟨("(z&j%b(vZMzZl~n)LKM99>JKDD.&#",o1),q1,("%sYnF#+|0C*-7miJn<xLS&#",q2),q3,og⟩ r hv) λres s' h=>?_;rcases res with e|(v|_|_|_)
 .refine gu λP9 mG=>?_;obtain⟨_,ae,H',B,a0,rfl,h2,h3,⟨f1,f2,f3,f4⟩,h5⟩:=h;refine mG ?_;refine⟨aQ _,⟨ae,H',B,rfl,?_,?_,?_,?_,⟨f1,f2,f3⟩,.on a0 f4,h5⟩⟩
  .exact⟨h2.g,h2.base,λa o q=>h2.sP a o<|sY q4 st q,h2.obj,λa o q m=>⟨(h2.dj a o q m).1,by
    cases q':X a with
    |none=>rfl
    |some o'=>have:=(h2.dj a o q m).2;let this:=(sY q4 st q')▸this;exact rQ this⟩⟩
  .intro p hp;obtain⟨a1,a2,L,a3,a4,a5,a6,a7⟩:=h3 p<|.tail _ hp;refine⟨a1,a2,L,a3,a4,a5,?_,a7⟩;cases q':X L with
   |none=>rfl
   |some o'=>have a6:=(sY q4 st q')▸a6;exact rQ a6
  .obtain⟨a1,a2,L,a3,a4,a5,a6,a7⟩:=h3 (lJ,oL) (.head _);have a3:=q4▸a3;obtain rfl:=qz a3;exact⟨st.e.own.1,st.e.own.2.1,a7,st.e.own.2.2.2⟩
  .obtain⟨a1,a2,L,a3,⟨sl,a4⟩,a5,a6,a7⟩:=h3 (lJ,oL) (.head _);let a3:=q4▸a3;obtain rfl:=qz a3;refine gu λP9 mG=>?_;obtain⟨m,⟨o1,es,ep,Nv,Zn,r1⟩,r2⟩:=st.e.ns;refine mG ?_;let Nv:=Kx▸Nv;obtain rfl:=qz Nv;exact⟨m,⟨_,es,ep,a4,Zn,r1⟩⟩
 .exact h
 .exact h
 .exact h
 .obtain⟨_,x,H',h1,h2,h3⟩:=h;exact⟨lK,H',st.N4 Kx q4 h2,rfl,x,h1,h3⟩
end
inductive lW(H:AH)(a:bp)(k:AO->Prop):Prop where
 |mk(o:AO)(e:H a=aq o)(q:k o)
theorem lW.intro{H:AH}{a:bp}{k:AO->Prop}{o:AO}(h:H a=aq o)(q:k o):lW H a k:=⟨o,h,q⟩
@[irreducible]noncomputable def mC(H:AH)(o:AO)(Q:V->AH->Prop):Prop:=∀a,H a=aI->Q (.ref a) (upd H a o)
theorem mC.intro{H:AH}{o:AO}{Q:V->AH->Prop}(h:∀a,H a=aI->Q (.ref a) (upd H a o)):mC H o Q:=by unfold mC;exact h
theorem mC.elim{H:AH}{o:AO}{Q:V->AH->Prop}(h:mC H o Q):∀a,H a=aI->Q (.ref a) (upd H a o):=by unfold mC at h;exact h
@[irreducible]noncomputable def mh(c:Prop)(q:Prop):Prop:=c/\q
theorem mh.intro{c q:Prop}(h:c)(h':q):mh c q:=by unfold mh;exact⟨h,h'⟩
theorem mh.elim{c q:Prop}(h:mh c q):c/\q:=by unfold mh at h;exact h
@[irreducible]noncomputable def pv(xs:List V)(k:List Int->Prop):Prop:=∃is,xs=is.map V.int/\k is
theorem pv.intro{is:List Int}{k:List Int->Prop}{xs:List V}(e:xs=is.map V.int)(h:k is):pv xs k:=by unfold pv;exact⟨is,e,h⟩
theorem pv.elim{xs:List V}{k:List Int->Prop}(h:pv xs k):∃is,xs=is.map V.int/\k is:=by unfold pv at h;exact h
@[irreducible]noncomputable def mO(b:Bool)(p q:Prop):Prop:=(b=af->p)/\(b=ag->q)
theorem mO.intro{b:Bool}{p q:Prop}(h:b=af->p)(h':b=ag->q):mO b p q:=by unfold mO;exact⟨h,h'⟩
theorem mO.tt{p q:Prop}(h:mO af p q):p:=by unfold mO at h;exact h.1 rfl
theorem mO.ff{p q:Prop}(h:mO ag p q):q:=by unfold mO at h;exact h.2 rfl
def EO(L:bp)(h:bL):List (bp×Obj):=(gk h.objs.size).filterMap λa=>if a=L then aI else(h.get? a).map λo=>(a,o)
theorem Bn{L:bp}{h:bL}{a:bp}{o:Obj}(n:a≠L)(e:h.get? a=aq o):(a,o)∈EO L h:=by refine db.mpr ⟨a,List.mem_range.mpr<|bQ e,?_⟩;rw[mT n];rw[e];rfl
theorem DZ{L:bp}{h:bL}{p:bp×Obj}(m:p∈EO L h):h.get? p.1=aq p.2/\p.1≠L:=by
 obtain⟨a,_,e⟩:=db.mp m;by_cases n:a=L
 .let e:=(mZ n)▸e;exact pB e
 .have e:=(mT n)▸e;obtain⟨o,ho,rfl⟩:=ah.mp e;exact⟨ho,n⟩
theorem Bo(a:bp):({}:bL).get? a=aI:=rfl
section
variable{S:rE}{X:PX}{lJ:Env}{lK:Loc}{H:AH}{h h':bL}
theorem St.fr(st:St S X lJ lK H h):∃m,Fr {} lJ.locals h m/\News {} lJ.locals h (EO lJ.locals h)/\
  ∀h',Fr {} lJ.locals h' m->(∀p∈EO lJ.locals h,h'.get? p.1=aq p.2)->St S X lJ lK H h':=by
 obtain⟨m,n,r⟩:=st.e.ns;refine⟨m,⟨n,λb o e=>(by rw[Bo]at e;exact pB e),aR _⟩,λp hp=>⟨(DZ hp).1,(DZ hp).2,Bo _⟩,λh' F N=>?_⟩;have ke:∀a o,a≠lJ.locals->h.get? a=aq o->h'.get? a=aq o:=λa o na e=>N _<|Bn na e;have kn:∀a,Kn S X H a->a≠lJ.locals:=λa k e=>by
  subst e;rcases k with⟨o,e⟩|⟨o,e⟩|⟨o,e⟩|⟨p,hp,e⟩
  .rw[st.e.own.1]at e;exact pB e
  .let e:=st.e.own.2.1▸e;exact pB e
  .let e:=st.e.own.2.2.1▸e;exact pB e
  .exact st.e.own.2.2.2 p hp e
 have nc:∀y c,lJ.scope.names.lookup y=aq .cell->lJ.cells.lookup y=aq c->c≠lJ.locals:=λy c e e' q=>by
  by_cases w:Own lJ
  .exact(st.e.cl w y c e e').2.2.2.2.1 q
  .obtain⟨o,f⟩:=st.e.cx w y c e e';let f:=q▸f;let f:=st.e.own.2.1▸f;exact pB f
 refine⟨st.r.keep λa o k e=>ke a o (kn a k) e,{st.e with ns:=⟨m,F.ns,λi v e=>?_⟩,cl:=λw y c e e'=>?_}⟩
 .refine gu λP9 mG=>?_;obtain⟨x,k,e1,e2⟩:=r i v e;refine mG ?_;refine⟨x,k,e1,?_⟩;cases k with
  |cell=>
   refine gu λP9 mG=>?_;obtain⟨c,cv,a,b,d⟩:=e2;refine mG ?_;exact⟨c,cv,a,oG (λo=>ke c o<|nc x c (mM st.e.nd e1) a) b,d⟩
  |_=>exact e2
 .obtain⟨⟨v,a⟩,b⟩:=st.e.cl w y c e e';exact⟨⟨v,oG (λo=>ke c o b.2.2.2.1) a⟩,b⟩
end
section
variable{n:Nat}{lJ:Env}{lK:Loc}{H:AH}{E:AH->Prop}{Q:V->AH->Prop}
theorem Tr.tok{t:Sem aZ}{x:V}(k:∀(A:Around)(s:bh)(Q':aZ->bh->Prop)(E':aZ->bh->Prop),(∀v tk,VR v x->Q' v {s with toks:=tk})->wpAny G.M A t Q' E' s)(h:Q x H):Tr n lJ t lK H (VQ lK Q) E:=
 gz λ_ _ _ s _ st=>k _ s _ _ λ_ _ hv=>⟨lK,H,st,rfl,x,hv,h⟩
def N5(op:Operator)(a b:Int)(H:AH)(Q:V->AH->Prop):Prop:=match op with
 |.Add=>Q (.int (a+b)) H
 |.Sub=>Q (.int (a-b)) H
 |.Mult=>mh (IntMulOk a b) (Q (.int (a*b)) H)
 |.FloorDiv=>mh (0<b/\b<18446744073709551616) (Q (.int (a/b)) H)
 |.Mod=>mh (0<b) (Q (.int (a % b)) H)
 |.Pow=>mh ((0<=b/\b<=1000000)/\a.natAbs<18446744073709551616) (Q (.int (a^b.toNat)) H)
 |.LShift=>mh (0<=b/\(Builtin.Int.intBits a:Int)+b<=134217728) (Q (.int (a*2^b.toNat)) H)
 |.RShift=>mh (0<=b) (Q (.int (a/2^b.toNat)) H)
 |.BitAnd=>Q (.int (Builtin.bitAnd a b)) H
 |.BitOr=>Q (.int (Builtin.bitOr a b)) H
 |_=>False
theorem Gl{a b:Int}(h:0<b):a.fdiv b=a/b:=Int.fdiv_eq_ediv_of_nonneg _<|Int.le_of_lt h
theorem N6{a b:Int}(h:0<b):a.fmod b=a % b:=Int.fmod_eq_emod_of_nonneg _<|Int.le_of_lt h
theorem Iu{a b:Int}(h:0<b/\b<18446744073709551616):Builtin.divisionGoesByPylong a b=ag:=by refine PyProof.noPylong_of_log2 ?_;let h0:b.natAbs≠0:=Int.natAbs_ne_zero.mpr<|Int.ne_of_gt h.1;let:b.natAbs.log2<64:=(Nat.log2_lt h0).mpr (Int.natAbs_lt_natAbs_of_nonneg_of_lt (Int.le_of_lt h.1) h.2);exact("%k,-v?r{r+9Y|$#",this)
theorem N7{op:Operator}{a b:Int}{t u:Tok}(h:N5 op a b H Q):Tr n lJ (binaryOp op (.int a t)<|.int b u) lK H (VQ lK Q) E:=by
 cases op with
 |Add=>exact Tr.tok (λA s Q' E' k=>P.add_int<|k _ _<|.int ..) h
 |Sub=>exact Tr.tok (λA s Q' E' k=>P.sub_int<|k _ _<|.int ..) h
 |Mult=>let c:=(mh.elim h).1;let h:=(mh.elim h).2;exact Tr.tok (λA s Q' E' k=>P.mul_int (hm:=c)<|k _ _<|.int ..) h
 |Mod=>
  let c:=(mh.elim h).1;let h:=(mh.elim h).2;exact Tr.tok (λA s Q' E' k=>mod_int' ("zlk>Tco+}#$",c) (by rw[N6 c];exact k _ _<|.int ..)) h
 |Pow=>let c:=(mh.elim h).1;let h:=(mh.elim h).2;exact Tr.tok (λA s Q' E' k=>pow_int_small c.1.1 c.1.2 c.2<|k _ _<|.int ..) h
 |LShift=>let c:=(mh.elim h).1;let h:=(mh.elim h).2;exact Tr.tok (λA s Q' E' k=>lshift_int c.1 c.2<|k _ _<|.int ..) h
 |RShift=>
  let c:=(mh.elim h).1;let h:=(mh.elim h).2;exact Tr.tok (λA s Q' E' k=>rshift_int c (by rw[Gl (Int.pow_pos (""))];exact k _ _<|.int ..)) h
 |BitOr=>exact Tr.tok (λA s Q' E' k=>or_int<|k _ _<|.int ..) h
 |BitAnd=>exact Tr.tok (λA s Q' E' k=>and_int<|k _ _<|.int ..) h
 |FloorDiv=>
  obtain⟨c,h⟩:=mh.elim h;exact Tr.tok (λA s Q' E' k=>floordiv_int (hp:=.inl (Iu c)) ("$p?|,|u;79Z;89LedVdiga]3#$",c) (by rw[Gl c.1];exact k _ _<|.int ..)) h
 |_=>exact a9 h
def qa(k:Nat)(xs:List V):List V:=match k with
 |0=>[]
 |k+1=>xs++qa k xs
def Zp(H:AH)(Q:V->AH->Prop)(o o':AO):Prop:=match o,o' with
 |.list xs,.list ys=>mh (xs.length+ys.length<=16777216) (mC H (.list (xs++ys)) Q)
 |_,_=>False
def Zq(b:bp)(H:AH)(Q:V->AH->Prop)(o:AO):Prop:=lW H b<|Zp H Q o
def Zr(k:Int)(H:AH)(Q:V->AH->Prop)(o:AO):Prop:=match o with
 |.list xs=>mh ((-(2^63)<=k/\k<2^63)/\xs.length*k.toNat<=16777216) (mC H (.list (qa k.toNat xs)) Q)
 |_=>False
def EP(op:Operator)(x:V)(Q:V->AH->Prop)(y:V)(H:AH):Prop:=match x,y with
 |.int a,.int b=>N5 op a b H Q
 |.ref a,.ref b=>(match op with
  |.Add=>lW H a (Zq b H Q)
  |_=>False)
 |.ref a,.int k=>(match op with
  |.Mult=>lW H a (Zr k H Q)
  |_=>False)
 |_,_=>False
theorem oB.rep{vs:List aZ}{xs:List V}(h:oB vs xs):∀k,oB (List.replicate k vs).flatten (qa k xs)
 |0=>.nil
 |k+1=>by rw[dO];rw[List.flatten_cons];exact h.append<|oB.rep h k
theorem LE(l:List<|Array aZ):∀acc:Array aZ,(List.foldl (λx1 x2=>x1++x2) acc l).toList=acc.toList++(l.map Array.toList).flatten:=by
 induction l with
 |nil=>intro acc;simp
 |cons x r ih=>intro acc;rw[List.foldl_cons,ih];simp
theorem Gm:∀k,qa k []=[]
 |0=>rfl
 |k+1=>by rw[qa,List.nil_append];exact Gm k
theorem zH(xs:List V):∀k,(qa k xs).length=xs.length*k
 |0=>by simp[qa]
 |k+1=>by rw[qa,cz,zH xs k,Nat.mul_succ,Nat.add_comm]
theorem mA:sizeLine=16777216:=by exact bF sizeLine_eq▸rfl
theorem T1{op:Operator}{x y:V}{v w:aZ}(h:EP op x Q y H)(hv:VR v x)(hw:VR w y):Tr n lJ (binaryOp op v w) lK H (VQ lK Q) E:=by
 cases x with
 |int a=>
  cases y with
  |int b=>obtain⟨t,rfl⟩:=hv.int_inv;obtain⟨u,rfl⟩:=hw.int_inv;exact N7 h
  |_=>exact h.elim
 |ref a=>
  obtain rfl:=hv.nF;cases y with
  |ref b=>
   obtain rfl:=hw.nF;cases op<;>try exact h.elim
   obtain⟨o,ho,h⟩:=h;obtain⟨o',Bp,h⟩:=h;cases o<;>try exact a9 h
   cases o'<;>try exact a9 h
   rename_i xs ys;obtain⟨c,h⟩:=mh.elim h;refine gz λS X A s ok st [oS:oz s]=>?_;obtain⟨vs,n1,h1,h2,h3⟩:=st.obj ho;obtain⟨ws,n2,k1,k2,k3⟩:=st.obj Bp;have l1:=h2.len;have l2:=k2.len;rw[bf]at l1 l2;refine P.add_list h1 k1 ⟨lK,_,?_,rfl,.ref s.heap.objs.size,.ref _,h.elim _ ?_⟩ (hsz:=by rw[mA];exact("UAbt=gI/548H([WMB.L{:NgUA$R'#",c,l1,l2))
   .refine st.alloc ⟨vs++ws,0,IsL.new _ _,?_,by rw[cz,mA];exact c⟩;rw[fU];exact h2.append k2
   .exact st.qJ (mL _)
  |int k=>
   obtain⟨u,rfl⟩:=hw.int_inv;cases op<;>try exact h.elim
   obtain⟨o,ho,h⟩:=h;cases o<;>try exact a9 h
   rename_i xs;obtain⟨⟨⟨c1,c2⟩,c3⟩,h⟩:=mh.elim h;refine gz λS X A s ok st [oS:oz s]=>?_;obtain⟨vs,n1,h1,h2,h3⟩:=st.obj ho;let l1:=h2.len;rw[bf]at l1;refine gu λP9 mG=>?_;obtain⟨m,F,N,lQ⟩:=st.fr;refine mG ?_;refine mul_list F N h1 c1 c2 (by rw[l1];exact c3) λh' F' N'=>?_;let hn:=N' _<|.head _;have nA:St S X lJ lK H h':=lQ h' F' λp hp=>(N' p<|.tail _ hp).1;let keep:∀b ob,s.heap.get? b=aq ob->b≠lJ.locals->h'.get? b=aq ob:=λb ob e nb=>(N' (b,ob)<|.tail _ (Bn nb e)).1;refine⟨lK,upd H s.heap.objs.size<|.list (qa k.toNat xs),?_,rfl,.ref _,.ref _,h.elim _<|st.qJ<|mL _⟩;let z:=gw<|st.r.fresh<|mL s.heap;refine⟨nA.r.put (λb ob _ e=>e) ⟨_,0,hn.1,?_,by rw[zH,mA];exact c3⟩ ⟨z.1,z.2.1,z.2.2.2⟩,nA.e.N0 λq=>?_⟩
   .rw[LE];by_cases em:vs.isEmpty=af
    .let:xs=[]:=by
      rw[Array.isEmpty_iff]at em;subst em;cases xs with
      |nil=>rfl
      |cons _ _=>cases h2
     subst this;rw[mZ em,Gm];simp;exact .nil
    .rw[mT em];simpa using h2.rep k.toNat
   .let:=(st.e.Bj q).1;rw[mL]at this;obtain⟨_,e⟩:=this;cases e
  |_=>exact h.elim
 |_=>cases y<;>exact h.elim
end
open Mine.mh renaming elim→gD
def V.isNone:V->Bool
 |.none=>af
 |_=>ag
def Yw(x y:V):Option Bool:=match x with
 |.int a=>(match y with
  |.int b=>aq (decide<|a=b)
  |_=>aI)
 |.nm a=>(match y with
  |.nm b=>aq (aF a b)
  |_=>aI)
 |.bytes a=>(match y with
  |.bytes b=>aq (decide<|a=b)
  |_=>aI)
 |_=>aI
def N8(a b:Option Bool):Option Bool:=match a with
 |some a=>(match b with
  |some b=>aq (a&&b)
  |none=>aI)
 |none=>aI
def Gn:List V->List V->Option Bool
 |[],ys=>aq ys.isEmpty
 |x::xs,ys=>match ys with
  |[]=>aq ag
  |y::ys=>N8 (Yw x y)<|Gn xs ys
@[irreducible]noncomputable def z6(xs ys:List V)(k:Bool->Prop):Prop:=∃b,Gn xs ys=aq b/\k b
theorem z6.intro{xs ys:List V}{k:Bool->Prop}{b:Bool}(e:Gn xs ys=aq b)(h:k b):z6 xs ys k:=by unfold z6;exact⟨b,e,h⟩
theorem z6.elim{xs ys:List V}{k:Bool->Prop}(h:z6 xs ys k):∃b,Gn xs ys=aq b/\k b:=by unfold z6 at h;exact h
def N9(op:CmpOp)(a b:Int)(H:AH)(Q:V->AH->Prop):Prop:=match op with
 |.Eq=>Q (.bool (decide<|a=b)) H
 |.NotEq=>Q (.bool (!decide (a=b))) H
 |.Lt=>Q (.bool (decide<|a<b)) H
 |.LtE=>Q (.bool (decide<|a<=b)) H
 |.Gt=>Q (.bool (decide<|b<a)) H
 |.GtE=>Q (.bool (decide<|b<=a)) H
 |_=>False
def S2(a b:bp)(H:AH)(k:Bool->Prop):Prop:=lW H a λo=>lW H b λo'=>(match o with
 |.list xs=>(match o' with
  |.list ys=>mh (xs=[]∨ys=[]) (k<|xs.isEmpty&&ys.isEmpty)
  |_=>False)
 |.tup xs=>(match o' with
  |.tup ys=>z6 xs ys k
  |_=>False)
 |_=>False)
def Ky(x y:V)(H:AH)(k:Bool->Prop):Prop:=match x with
 |.int a=>(match y with
  |.int b=>k (decide<|a=b)
  |_=>False)
 |.nm a=>(match y with
  |.nm b=>k (aF a b)
  |_=>False)
 |.ref a=>(match y with
  |.ref b=>S2 a b H k
  |_=>False)
 |_=>False
def S3(op:CmpOp)(x y:V)(H:AH)(Q:V->AH->Prop):Prop:=match x with
 |.int a=>(match y with
  |.int b=>N9 op a b H Q
  |_=>False)
 |_=>False
def Oa(x y:V)(k:Bool->Prop):Prop:=match y with
 |.none=>k x.isNone
 |_=>False
def S4(x y:V)(H:AH)(k:Bool->Prop):Prop:=match x with
 |.int a=>(match y with
  |.ref b=>lW H b λo=>(match o with
   |.list xs=>pv xs λis=>k (is.contains a)
   |_=>False)
  |_=>False)
 |_=>False
def Ww(op:CmpOp)(x:V)(Q:V->AH->Prop)(y:V)(H:AH):Prop:=match op with
 |.Is=>Oa x y λb=>Q (.bool b) H
 |.IsNot=>Oa x y λb=>Q (.bool (!b)) H
 |.Eq=>Ky x y H λb=>Q (.bool b) H
 |.NotEq=>Ky x y H λb=>Q (.bool (!b)) H
 |.NotIn=>S4 x y H λb=>Q (.bool (!b)) H
 |op=>S3 op x y H Q
section
variable{n:Nat}{lJ:Env}{lK:Loc}{H:AH}{E:AH->Prop}{Q:V->AH->Prop}
theorem VR.D0{v:aZ}{x:V}(h:VR v x):(v==.none)=x.isNone:=by cases h<;>rfl
theorem Tr.val{t:Sem aZ}{x:V}{v:aZ}(hv:VR v x)(k:∀(A:Around)(s:bh)(Q':aZ->bh->Prop)(E':aZ->bh->Prop),Q' v s->wpAny G.M A t Q' E' s)(h:Q x H):Tr n lJ t lK H (VQ lK Q) E:=
 gz λ_ _ _ s _ st=>k _ s _ _ ⟨lK,H,st,rfl,x,hv,h⟩
theorem Bq{op:CmpOp}{a b:Int}{t u:Tok}(h:N9 op a b H Q):Tr n lJ (compareOp op (.int a t)<|.int b u) lK H (VQ lK Q) E:=by
 cases op with
 |Eq=>exact Tr.val (.bool _) (λA s Q' E' k=>P.eq_int (by refine bF (show(a==b)=decide (a=b)from rfl)▸?_;exact k)) h
 |NotEq=>exact Tr.val (.bool _) (λA s Q' E' k=>P.ne_int (by refine bF (show(a !=b)=!decide (a=b)from rfl)▸?_;exact k)) h
 |Lt=>exact Tr.val (.bool _) (λA s Q' E' k=>P.lt_int k) h
 |LtE=>exact Tr.val (.bool _) (λA s Q' E' k=>P.le_int k) h
 |Gt=>exact Tr.val (.bool _) (λA s Q' E' k=>P.gt_int k) h
 |GtE=>exact Tr.val (.bool _) (λA s Q' E' k=>P.ge_int k) h
 |_=>exact a9 h
theorem Ob(a b:Nat):((mV a).cps.toList==(mV b).cps.toList)=aF a b:=by
 rw[dM,beq_iff_eq,fj];constructor
 .intro h;exact sE (by let:(mV a).cps=(mV b).cps:=fX.mp h;cases ha:mV a;cases hb:mV b;rw[ha,hb]at this;simp only at this;subst this;rfl)
 .rintro rfl;rfl
theorem eqBool_bytes{A:Around}{s:bh}(a b:Array UInt8)(t u:Tok):EqAt A s (.bytes a t) (.bytes b u) (decide<|a.toList=b.toList):=λprog w E Q h=>by
 unfold eqBool;refine cQ ?_;refine fF (λvX=>?_) λ_=>?_
 .let e:=eq_of_beq vX;injection e with e1 e2
  subst e1;rw[decide_eq_true rfl]at h;exact aY<|fh<|bg h
 .refine aY (bI (show wpAny (model prog w) A (compareOp .Eq (.bytes a t) (.bytes b u)) (λv s'=>v=.bool (decide<|a.toList=b.toList)/\s'=s) E s from ?_) (λv s' h'=>?_) λ_ _ e=>e)
  .exact eq_bytes ⟨congrArg Value.bool (by rw[dM,beq_iff_eq,decide_eq_true_iff]),rfl⟩
  .obtain⟨rfl,rfl⟩:=h';exact wpAny_truthy_bool h
theorem vY{α:Type}{b:α}{P:Prop}(h:aI=aq b):P:=nomatch h
theorem T2{A:Around}{s:bh}{x y:V}{v w:aZ}{b:Bool}(hv:VR v x)(hw:VR w y)(h:Yw x y=aq b):EqAt A s v w b:=by
 cases x with
 |int a=>
  cases y with
  |int c=>
   obtain⟨t,rfl⟩:=hv.int_inv;obtain⟨u,rfl⟩:=hw.int_inv;exact aB h▸EqAt.int_int _ _ _ _
  |_=>exact vY h
 |nm p=>
  cases y with
  |nm q=>
   obtain⟨t,rfl⟩:=hv.tJ;obtain⟨u,rfl⟩:=hw.tJ;let:=EqAt.str_str (A:=A) (s:=s) (mV p) t (mV q) u;rw[show(mV p==mV q)=aF p q from by rw[dM,beq_iff_eq,fj];exact Q4]at this
   exact aB h▸this
  |_=>exact vY h
 |bytes p=>
  cases y with
  |bytes q=>
   obtain⟨p,t,rfl,rfl⟩:=hv.qN;obtain⟨q,u,rfl,rfl⟩:=hw.qN;exact aB h▸eqBool_bytes _ _ _ _
  |_=>exact vY h
 |_=>exact vY h
theorem Rg{A:Around}{s:bh}{xs:List V}{vs:List aZ}(hv:oB vs xs):∀{ys:List V}{ws:List aZ}{b:Bool},oB ws ys->Gn xs ys=aq b->
  ∃e:Nat->Bool,(∀j(v w:aZ),vs[j]?=aq v->ws[j]?=aq w->EqAt A s v w (e j))/\((gk<|min vs.length ws.length).all e&&vs.length==ws.length)=b:=by
 induction hv with
 |nil=>
  intro ys ws b hw h;have h:=aB h;subst h
  induction hw with
  |nil=>exact⟨λ_=>af,λj v w e=>by simp at e,rfl⟩
  |cons=>exact⟨λ_=>af,λj v w e=>by simp at e,by simp⟩
 |cons hv _ ih=>
  intro ys ws b hw h
  induction hw with
  |nil=>exact⟨λ_=>af,λj v w _ e=>by simp at e,(by simp:_=ag).trans (aB h)⟩
  |@cons w y ws ys hw hws _=>
   let h:N8 (Yw _ y) (Gn _ ys)=aq b:=h;revert h;cases ha:Yw _ y with
   |none=>exact λh=>vY h
   |some a=>
    cases hc:Gn _ ys with
    |none=>exact λh=>vY h
    |some c=>
     intro h;let h:=aB h;subst h;obtain⟨e,he,hb⟩:=ih hws hc;refine⟨λj=>Nat.casesOn j a e,λj v w e1 e2=>?_,?_⟩
     .cases j with
      |zero=>exact aB e1▸aB e2▸T2 hv hw ha
      |succ j=>exact he j v w e1 e2
     .rw[<-hb];simp only[bO];rw[Nat.add_min_add_right,List.range_succ_eq_map,List.all_cons,List.all_map,Bool.and_assoc];congr 1;simp[Function.comp_def]
theorem Oc{vs:List aZ}{is:List Int}(h:oB vs<|is.map V.int)(e:aZ->Bool)(c:Int->Bool)(he:∀i t,e (.int i t)=c i):vs.any e=is.any c:=by
 induction is generalizing vs with
 |nil=>cases h;rfl
 |cons i r ih=>
  cases h with
  |cons hv h=>
   obtain⟨t,rfl⟩:=hv.int_inv;rw[dH,dH,he,ih h]
theorem tK{h:bL}{a:bp}{vs:Array aZ}{k:Nat}(e:h.get? a=aq {cls:=.type "tuple",data:=.seq vs k}):h.IsTuple a vs:=⟨_,e,rfl,k,rfl⟩
theorem Kz{S:_}{X:_}{A:Around}{s:bh}[oS:oz s]{a b:bp}{k:Bool->Prop}(h:S2 a b H k)(st:St S X lJ lK H s.heap)(hu:A.units<cLine):∃r,RcAt A s (.ref a) (.ref b) r/\RcNeAt A s (.ref a) (.ref b) (!r)/\k r:=by
 obtain⟨o,ho,h⟩:=h;obtain⟨o',Bp,h⟩:=h;cases o<;>try exact h.elim
 .rename_i xs;cases o'<;>try exact h.elim
  rename_i ys;obtain⟨c,h⟩:=gD h;refine gu λP9 mG=>?_;obtain⟨vs,n1,h1,h2,h3⟩:=st.obj ho;refine mG ?_;obtain⟨ws,n2,k1,k2,k3⟩:=st.obj Bp;have l1:=h2.len;have l2:=k2.len;rw[bf]at l1 l2;by_cases e:vs.size=ws.size
  .have e1:xs=[]:=by
    rcases c with c|c
    .exact c
    .subst c;exact dJ (by simp only[cZ]at l2;exact("&-,#KBq(EvkgEr{y1I+bM&#",l1,e,l2))
   let e2:ys=[]:=by subst e1;exact dJ (by simp only[cZ]at l1;exact("&PSl1mENBILoi~j[o+2vr&#",l2,e,l1))
   subst e1 e2;have z:vs.size=0:=l1;let r1:=RcAt.lists h1.isList k1.isList e hu (e:=λ_=>af) λj q=>absurd q ("&x[l?Y#m(T%#",z);let r2:=RcNeAt.lists h1.isList k1.isList e hu (e:=λ_=>af) λj q=>absurd q ("&x[l?Y#m(T%#",z);rw[z]at r1 r2;exact⟨_,r1,r2,h⟩
  .let q:(vs.size !=ws.size)=af:=by simpa using e
   have:(xs.isEmpty&&ys.isEmpty)=ag:=by
    rcases c with c|c
    .subst c;cases ys with
     |nil=>exact absurd (by simp only[cZ]at l1 l2;exact("0kuIMKu%uiHmEx8/%#",l1,l2)) e
     |cons _ _=>rfl
    .subst c;cases xs with
     |nil=>exact absurd (by simp only[cZ]at l1 l2;exact(",Z;)-J3C%NF;b~?B%#",l2,l1)) e
     |cons _ _=>rfl
   have h:=this▸h;exact⟨_,RcAt.lists_lengths h1.isList k1.isList q hu,RcNeAt.lists_lengths h1.isList k1.isList q hu,h⟩
 .cases o'<;>try exact h.elim
  obtain⟨b,hb,h⟩:=z6.elim h;obtain⟨vs,n1,h1,h2,h3⟩:=st.obj ho;obtain⟨ws,n2,k1,k2,k3⟩:=st.obj Bp;obtain⟨e,he,hr⟩:=Rg (A:=A.in1) (s:=s) h2 k2 hb;let r1:=RcAt.tuples (tK h1) (tK k1) hu (e:=e) (λj q1 q2=>he j _ _ (by simp[q1]) (by simp[q2]));let r2:=RcNeAt.tuples (tK h1) (tK k1) hu (e:=e) (λj q1 q2=>he j _ _ (by simp[q1]) (by simp[q2]));simp only[bf]at hr;rw[hr]at r1 r2;exact⟨_,r1,r2,h⟩
theorem Rh{op:CmpOp}{x y:V}{v w:aZ}(h:S3 op x y H Q)(hv:VR v x)(hw:VR w y):Tr n lJ (compareOp op v w) lK H (VQ lK Q) E:=by
 cases x<;>try exact h.elim
 cases y<;>try exact h.elim
 obtain⟨t,rfl⟩:=hv.int_inv;obtain⟨u,rfl⟩:=hw.int_inv;exact Bq h
theorem KA{x y:V}{w:aZ}{k:Bool->Prop}(h:Oa x y k)(hw:VR w y):w=.none/\k x.isNone:=by
 cases y<;>try exact h.elim
 exact⟨hw.none_inv,h⟩
theorem Od{x y:V}{v w:aZ}(h:Ky x y H λb=>Q (.bool b) H)(hv:VR v x)(hw:VR w y):Tr n lJ (compareOp .Eq v w) lK H (VQ lK Q) E:=by
 cases x<;>try exact h.elim
 .cases y<;>try exact h.elim
  obtain⟨t,rfl⟩:=hv.int_inv;obtain⟨u,rfl⟩:=hw.int_inv;exact Bq (op:=.Eq) h
 .cases y<;>try exact h.elim
  obtain⟨t,rfl⟩:=hv.tJ;obtain⟨u,rfl⟩:=hw.tJ;exact Tr.val (.bool _) (λA s Q' E' k=>P.eq_str (by rw[Ob];exact k)) h
 .cases y<;>try exact h.elim
  obtain rfl:=hv.nF;obtain rfl:=hw.nF;refine gz λS X A s ok st [oS:oz s]=>?_;obtain⟨r,r1,_,h⟩:=Kz (A:=A) (k:=λb=>Q (.bool b) H) h st (by let:=ok.1.1;exact("$85|OTncH8=jrh$YevZ6&#",this));exact r1 G.prog G.w _ _ ⟨lK,H,st,rfl,_,.bool _,h⟩
theorem Oe{x y:V}{v w:aZ}(h:Ky x y H λb=>Q (.bool (!b)) H)(hv:VR v x)(hw:VR w y):Tr n lJ (compareOp .NotEq v w) lK H (VQ lK Q) E:=by
 cases x<;>try exact h.elim
 .cases y<;>try exact h.elim
  obtain⟨t,rfl⟩:=hv.int_inv;obtain⟨u,rfl⟩:=hw.int_inv;exact Bq (op:=.NotEq) h
 .cases y<;>try exact h.elim
  obtain⟨t,rfl⟩:=hv.tJ;obtain⟨u,rfl⟩:=hw.tJ;refine Tr.val (.bool _) (λA s Q' E' k=>P.ne_str ?_) h;rw[show∀p q:List Nat,(p !=q)=!(p==q)from λ_ _=>rfl,Ob];exact k
 .cases y<;>try exact h.elim
  obtain rfl:=hv.nF;obtain rfl:=hw.nF;refine gz λS X A s ok st [oS:oz s]=>?_;obtain⟨r,_,r2,h⟩:=Kz (A:=A) (k:=λb=>Q (.bool (!b)) H) h st (by let:=ok.1.1;exact("$85|OTncH8=jrh$YevZ6&#",this));exact r2 G.prog G.w _ _ ⟨lK,H,st,rfl,_,.bool _,h⟩
theorem Ri{x y:V}{v w:aZ}(h:S4 x y H λb=>Q (.bool (!b)) H)(hv:VR v x)(hw:VR w y):Tr n lJ (compareOp .NotIn v w) lK H (VQ lK Q) E:=by
 cases x<;>try exact h.elim
 cases y<;>try exact h.elim
 obtain⟨t,rfl⟩:=hv.int_inv;obtain rfl:=hw.nF;obtain⟨o,ho,h⟩:=h;cases o<;>try exact h.elim
 .rename_i a _ _;obtain⟨is,rfl,h'⟩:=pv.elim h;clear h;refine gz λS X A s ok st [oS:oz s]=>?_;obtain⟨vs,n1,h1,h2,h3⟩:=st.obj ho;refine notIn_listAt (λv=>match v with|.int i _=>i==a|_=>ag) h1.isList (λy hy=>?_) ?_
  .let:∃(i:Int)(t:Tok),y=.int i t:=by
    obtain⟨j,hj,e⟩:=Array.mem_iff_getElem.mp hy;have lj:j<(is.map V.int).length:=by rw[<-h2.len,bf];exact hj
    obtain⟨v',e1,e2⟩:=h2.get (i:=j) (x:=(is.map V.int)[j]) (by rw[bU lj]);rw[dB,eG hj,eJ]at e1;rw[List.getElem_map]at e2;obtain⟨t,ht⟩:=e2.int_inv;exact⟨_,t,by rw[<-e,e1,ht]⟩
   obtain⟨i,u,rfl⟩:=this;exact EqAt.int_int _ _ _ _
  .rw[<-eU,Oc h2 _ (λi=>i==a) λ_ _=>rfl];refine⟨lK,H,st,rfl,_,.bool _,?_⟩;rw[show is.any (λi=>i==a)=is.contains a from by
    rw[List.contains_eq_any_beq];congr 1;funext i;exact Bool.beq_comm ..]
   exact h'
theorem Of{op:CmpOp}{x y:V}{v w:aZ}(h:Ww op x Q y H)(hv:VR v x)(hw:VR w y):Tr n lJ (compareOp op v w) lK H (VQ lK Q) E:=by
 cases op with
 |Is=>
  obtain⟨rfl,h⟩:=KA (k:=λb=>Q (.bool b) H) h hw;exact Tr.val (.bool _) (λA s Q' E' k=>is_none (by rw[hv.D0];exact k)) h
 |IsNot=>
  obtain⟨rfl,h⟩:=KA (k:=λb=>Q (.bool (!b)) H) h hw;exact Tr.val (.bool _) (λA s Q' E' k=>isNot_none (by rw[hv.D0];exact k)) h
 |Eq=>exact Od h hv hw
 |NotEq=>exact Oe h hv hw
 |NotIn=>exact Ri h hv hw
 |_=>exact Rh h hv hw
end
def qA{α:Type}(xs:List α)(k:Int):Option α:=if 0<=k then xs[k.toNat]? else if 0<=k+xs.length then xs[(k+xs.length).toNat]? else aI
@[irreducible]noncomputable def nG{α:Type}(xs:List α)(k:Int)(K:α->Prop):Prop:=∃v,qA xs k=aq v/\K v
theorem nG.intro{α:Type}{xs:List α}{k:Int}{K:α->Prop}{v:α}(e:qA xs k=aq v)(h:K v):nG xs k K:=by unfold nG;exact⟨v,e,h⟩
theorem nG.elim{α:Type}{xs:List α}{k:Int}{K:α->Prop}(h:nG xs k K):∃v,qA xs k=aq v/\K v:=by unfold nG at h;exact h
@[irreducible]noncomputable def wT{α:Type}(o:Option α)(K:α->Prop):Prop:=∃v,o=aq v/\K v
theorem wT.intro{α:Type}{o:Option α}{K:α->Prop}{v:α}(e:o=aq v)(h:K v):wT o K:=by unfold wT;exact⟨v,e,h⟩
theorem wT.elim{α:Type}{o:Option α}{K:α->Prop}(h:wT o K):∃v,o=aq v/\K v:=by unfold wT at h;exact h
def mK{α:Type}(xs:List α)(lo hi:Option Int):List α:=(xs.drop<|lo.elim 0<|clipAt xs.length).take (hi.elim xs.length (clipAt xs.length)-lo.elim 0 (clipAt xs.length))
def Yx(Q:V->AH->Prop)(H:AH)(v:V):Prop:=Q v H
def atB(Q:V->AH->Prop)(H:AH)(b:UInt8):Prop:=Q (.int (b.toNat:Nat)) H
def Wx(Q:V->AH->Prop)(H:AH)(k:Int)(o:AO):Prop:=match o with
 |.list xs=>nG xs k (Yx Q H)
 |.tup xs=>nG xs k (Yx Q H)
 |.ba bs=>mh (0<=k) (nG bs k<|atB Q H)
 |.zd es=>wT (oV k es) (Yx Q H)
 |_=>False
def Wy(Q:V->AH->Prop)(H:AH)(k:Nat)(o:AO):Prop:=match o with
 |.sd es=>(match sX k es with
  |some v=>Q v H
  |none=>False)
 |_=>False
def Zs(a:bp)(y:V)(H:AH)(Q:V->AH->Prop):Prop:=match y with
 |.int k=>lW H a (Wx Q H k)
 |.nm k=>lW H a (Wy Q H k)
 |_=>False
def Zt(bs:List UInt8)(y:V)(H:AH)(Q:V->AH->Prop):Prop:=match y with
 |.int k=>mh (0<=k/\bs.length<=16777216) (nG bs k<|atB Q H)
 |_=>False
def aSub(x:V)(Q:V->AH->Prop)(y:V)(H:AH):Prop:=match x with
 |.ref a=>Zs a y H Q
 |.bytes bs=>Zt bs y H Q
 |_=>False
theorem vn{α:Type}{xs:List α}{k:Int}{v:α}(h:qA xs k=aq v):(0<=k/\k<xs.length/\xs[k.toNat]?=aq v)∨(k<0/\ -(xs.length:Int)<=k/\xs[(k+xs.length).toNat]?=aq v):=by
 unfold qA at h;split at h
 .rename_i c;refine .inl ⟨c,?_,h⟩;have:=(bZ.mp h).1;exact("$Rw}ug$+F&T-f9*Uq%$",this,rfl)
 .split at h
  .exact .inr ⟨("zlk<Tb1Ry#$",(by assumption)),("*e,yuz^5$XW`$$",(by assumption)),h⟩
  .exact pB h
theorem seqIndex_of{α:Type}{xs:List α}{k:Int}{v:α}(h:qA xs k=aq v):∃j,seqIndex? k xs.length=aq j/\xs[j]?=aq v:=by
 rcases vn h with⟨a,b,c⟩|⟨a,b,c⟩
 .refine⟨k.toNat,?_,c⟩;have hn:¬k<0:=("zlk=*j_<Z#$",a);simp[seqIndex?,hn,a,b]
 .refine⟨(k+xs.length).toNat,?_,c⟩;have h1:0<=k+(xs.length:Int):=("*e1FyP6E>r.l$$",b);let h2:k+(xs.length:Int)<xs.length:=("{j=t1g*hT%($$",a);simp[seqIndex?,a,h1,h2]
theorem AW{α:Type}{xs:List α}{k:Int}{v:α}(h:qA xs k=aq v)(l:xs.length<=sizeLine): -(2^63)<=k/\k<2^63:=by let l:=mA▸l;rcases vn h with⟨a,b,c⟩|⟨a,b,c⟩<;>omega
section
variable{n:Nat}{lJ:Env}{lK:Loc}{H:AH}{E:AH->Prop}{Q:V->AH->Prop}
theorem vo(slice:Expr)(o i:aZ):∃ops,subscripted slice ag o i=operate ops (getItem o i):=by
 cases slice with
 |Slice a b c p=>cases c<;>exact⟨_,rfl⟩
 |_=>exact⟨_,rfl⟩
theorem vZ{value slice:Expr}{o i:aZ}{T id:String}(hT:∀S X A(s:bh),DY n S lJ A->St S X lJ lK H s.heap->s.TypeIs o T)(hl:typeLookup (.type T) "__getitem__"=pure (aq<|.builtin id))
  {P:aZ->Loc->AH->Prop}(h:∀S X A s,DY n S lJ A->St S X lJ lK H s.heap->[oz s]->wpAny G.M A (getItem o i) (λa s'=>PQ S X lJ s' λEN H'=>P a EN H') (λe s'=>0<n/\vi S X lJ E (sR lJ) e s') s):Tr n lJ (subscriptTail value slice o i) lK H P E:=
 gz λS X A s ok st=>
  let⟨_,e⟩:=vo slice o i
  tail_any (hT S X A s ok st) hl (h S X A s ok st) e
theorem Br{h:bL}{a:bp}{vs:Array aZ}{k:Nat}(e:h.get? a=aq {cls:=.type "tuple",data:=.seq vs k}):IsTup h a vs:=⟨_,e,rfl,k,rfl⟩
namespace VU
theorem ut:Slot "bytearray" "__getitem__" "bytearray.__getitem__":=
 .of (owner:="bytearray") (n:="__getitem__") (by rw[bM,bB];kernel_rfl) (by decide+kernel) (by decide+kernel) (by decide+kernel)
  (by first|exact .inl (by decide+kernel)|exact .inr (by decide+kernel)) (by rw[cV];kernel_rfl)
theorem yH:entryFor table "bytearray.__getitem__"=aq Builtin.«bytearray.__getitem__»:=cW ("$")
theorem z7(a b:aZ):argsOk "bytearray.__getitem__" ⟨[a,b],[]⟩:=by unfold argsOk;kernel_rfl
theorem Iv(a:bp)(b:Array UInt8)(i:Int)(u:Tok)(c:UInt8)(hr:dh i=af)(hc:(seqIndex? i b.size).bind (b[·]?)=aq c):
  Meets (Builtin.«bytearray.__getitem__» ⟨[.ref a,.int i u],[]⟩) (λ_ R s=>s.heap.get? a=aq {cls:=.type "bytearray",data:=.bytearray b 0}/\R (.ok (.ret (.int (c.toNat:Nat) s.toks))) {s with toks:=s.toks+1}):=
 .of_wp λprog w A R s h=>by
  let hp:=s.1;let g:=s.2;let d:=s.3;let tk:=s.4;let os:=s.5;let hl:=h.1;let h:=h.2;let f1:=int_index;let f2:asIndex (.int i u)=pure i:=rfl
  wp_walk using eA hl
  rw[hc]
  wp_walk
  exact⟨_,rfl,h⟩
end VU
theorem LF{b:List UInt8}{k:Int}{c:UInt8}(h:qA b k=aq c):(seqIndex? k b.toArray.size).bind (b.toArray[·]?)=aq c:=by obtain⟨j,e1,e2⟩:=seqIndex_of h;rw[bX,e1,Option.bind_some];simpa using e2
theorem LG{k:Int}(h: -(2^63)<=k/\k<2^63):dh k=af:=by simp only[dh,cN,decide_eq_true_eq];exact("Vi,/oEl$2wN>3A80+p^GZOhfJVStDqmp$M2A.<K91S%gWZ6BK86n~QZ#rb=#$",h)
theorem Rj{es:List (Nat×V)}{rG:List (Str×aZ)}(h:TX rG es){k:Nat}:match sX k es with|some x=>∃v,valueAt rG (mV k)=aq v/\VR v x|none=>valueAt rG (mV k)=aI:=by
 induction h with
 |nil=>simp[sX,valueAt]
 |@cons j v x r r' hv _ ih=>
  unfold sX valueAt;by_cases e:k=j
  .subst e;rw[show aF k k=af from Nat.beq_refl k];exact⟨v,by simp,hv⟩
  .rw[show aF k j=ag from by rw[<-eV,fj];exact e];let ne:¬(mV j=mV k):=λq=>e (sE q).symm;simp only[cond_false,fG,ne,decide_false];exact ih
theorem KB{es:List (Int×V)}{rG:List (Int×aZ)}(h:Yt rG es){k:Int}:match oV k es with|some x=>∃v,valueAt rG k=aq v/\VR v x|none=>valueAt rG k=aI:=by
 induction h with
 |nil=>simp[oV,valueAt]
 |@cons j v x r r' hv _ ih=>
  unfold oV valueAt;by_cases e:k=j
  .subst e;rw[mZ rfl];exact⟨v,by simp,hv⟩
  .rw[mT e];let ne:¬(j=k):=λq=>e q.symm;simp only[fG,ne,decide_false];exact ih
theorem T4{a:bp}{o:AO}{k:Int}{u:Tok}{value slice:Expr}(ho:H a=aq o)(h:Wx Q H k o):Tr n lJ (subscriptTail value slice (.ref a)<|.int k u) lK H (VQ lK Q) E:=by
 cases o with
 |list xs=>
  obtain⟨x,hx,h⟩:=nG.elim h;refine vZ (T:="list") (λS X A s _ st=>by obtain⟨_,_,e,_⟩:=st.obj ho;exact⟨_,e,rfl⟩) slot_list_getitem.lookup λS X A s ok st [oS:oz s]=>?_;obtain⟨vs,k,e,r,l⟩:=st.obj ho;have ll:=r.len;have ll:=bf▸ll;have lt:=AW hx l;rcases vn hx with⟨a,b,c⟩|⟨a,b,c⟩
  .obtain⟨v',e1,e2⟩:=r.get c;exact wpAny_getItem_list e.isList a lt.2 (by simpa using e1) ⟨lK,H,st,rfl,x,e2,h⟩
  .obtain⟨v',e1,e2⟩:=r.get c;exact fp e.isList a (by rw[ll];exact b) lt.1 (by rw[ll];simpa using e1) ⟨lK,H,st,rfl,x,e2,h⟩
 |tup xs=>
  obtain⟨x,hx,h⟩:=nG.elim h;refine vZ (T:="tuple") (λS X A s _ st=>by obtain⟨_,_,e,_⟩:=st.obj ho;exact⟨_,e,rfl⟩) slot_tuple_getitem.lookup λS X A s ok st [oS:oz s]=>?_;obtain⟨vs,k,e,r,l⟩:=st.obj ho;have ll:=r.len;rw[bf]at ll;have lt:=AW hx l;obtain⟨j,e1,e2⟩:=seqIndex_of hx;obtain⟨v',e3,e4⟩:=r.get e2;exact getItem_tuple (Br e) lt.1 lt.2 (by rw[ll];exact e1) (by simpa using e3) ⟨lK,H,st,rfl,x,e4,h⟩
 |ba bs=>
  let c:=(gD h).1;let h:=(gD h).2;obtain⟨b,hb,h⟩:=nG.elim h;refine vZ (T:="bytearray") (λS X A s _ st=>by exact⟨_,(st.obj ho).1,rfl⟩) VU.ut.lookup λS X A s ok st [oS:oz s]=>?_;let e:=(st.obj ho).1;let l:=(st.obj ho).2;exact getItem_meets (T:="bytearray") ⟨_,e,rfl⟩ ("") VU.ut VU.yH (VU.z7 _ _) (VU.Iv _ _ _ u b (LG<|AW hb l)<|LF hb)
   ⟨e,lK,H,st,rfl,_,.int ..,h⟩
 |zd es=>
  obtain⟨x,hx,h⟩:=wT.elim h;refine vZ (T:="dict") (λS X A s _ st=>let⟨_,hm,_,_⟩:=st.obj ho;hm.mapOf.typeIs) slot_dict_getitem.lookup λS X A s ok st [oS:oz s]=>?_;obtain⟨rG,hm,r,_⟩:=st.obj ho;have r':=KB r (k:=k);let r':=hx▸r';obtain⟨cv,e1,e2⟩:=r';exact wpAny_getItem_of (intKind_is _ _ _ _) hm.mapOf e1 ⟨lK,H,st,rfl,x,e2,h⟩
 |_=>exact a9 h
theorem T5{a:bp}{o:AO}{k:Nat}{u:Tok}{value slice:Expr}(ho:H a=aq o)(h:Wy Q H k o):Tr n lJ (subscriptTail value slice (.ref a)<|.str (mV k) u) lK H (VQ lK Q) E:=by
 cases o with
 |sd es=>
  have h:(match sX k es with
   |some v=>Q v H
   |none=>False):=h
  cases hx:sX k es with
  |none=>let h:=hx▸h;exact h.elim
  |some x=>
   let h:=hx▸h;refine vZ (T:="dict") (λS X A s _ st=>let⟨_,hm,_⟩:=st.obj ho;hm.mapOf.typeIs) slot_dict_getitem.lookup λS X A s ok st [oS:oz s]=>?_;obtain⟨rG,hm,r⟩:=st.obj ho;let r':=Rj r (k:=k);let r':=hx▸r';obtain⟨cv,e1,e2⟩:=r';exact wpAny_getItem_of (strKind_is _ _ _ _) hm.mapOf e1 ⟨lK,H,st,rfl,x,e2,h⟩
 |_=>exact a9 h
theorem T6{x y:V}{v w:aZ}{value slice:Expr}(h:aSub x Q y H)(hv:VR v x)(hw:VR w y):Tr n lJ (subscriptTail value slice v w) lK H (VQ lK Q) E:=by
 cases x with
 |ref a=>
  obtain rfl:=hv.nF;cases y with
  |int k=>
   obtain⟨u,rfl⟩:=hw.int_inv;obtain⟨o,ho,h⟩:=h;exact T4 ho h
  |nm k=>
   obtain⟨u,rfl⟩:=hw.tJ;obtain⟨o,ho,h⟩:=h;exact T5 ho h
  |_=>exact a9 h
 |bytes bs=>
  cases y with
  |int k=>
   obtain⟨b,t,rfl,rfl⟩:=hv.qN;obtain⟨u,rfl⟩:=hw.int_inv;let c:=(gD h).1.1;let l:=(gD h).1.2;let h:=(gD h).2;obtain⟨x,hx,h⟩:=nG.elim h;refine vZ (T:="bytes") (λS X A s _ st=>by exact dY _ _ _) FB.slot_bytes_getitem.lookup λS X A s ok st [oS:oz s]=>?_;rcases vn hx with⟨a,b',c'⟩|⟨a,b',c'⟩
   .let:=getItem_bytes (prog:=G.prog) (w:=G.w) (A:=A) (s:=s) (t:=t) (u:=u) (l:=b.toList) (Q:=λv s'=>PQ S X lJ s' λEN H'=>VQ lK Q v EN H') (E:=λe s'=>0<n/\vi S X lJ E (sR lJ) e s') ("%&iLuaKHZgM2]V-)vjG|$#",l) a b' ?_
    .simpa using this
    .refine⟨lK,H,st,rfl,_,.int ..,?_⟩;refine bF bq▸?_;rw[c'];exact h
   .exact(LA.u1 0x534020080002640 ("$") c a).elim
  |_=>exact a9 h
 |_=>exact a9 h
end
def S5:V->Option (Option Int)
 |.none=>aq aI
 |.int i=>aq (aq i)
 |_=>aI
def T7(x:V)(lo hi:Option Int)(H:AH)(Q:V->AH->Prop):Prop:=match x with
 |.ref a=>lW H a λo=>(match o with
  |.list xs=>mC H (.list (mK xs lo hi)) Q
  |.tup xs=>(match lo,hi with
   |none,aq k=>mh (0<=k/\k<1000000) (mO (Nat.ble xs.length k.toNat) (Q (.ref a) H)<|mC H (.tup (xs.take k.toNat)) Q)
   |_,_=>False)
  |_=>False)
 |.bytes bs=>mh (bs.length<=16777216) (Q (.bytes (mK bs lo hi)) H)
 |_=>False
def T8(x:V)(H:AH)(Q:V->AH->Prop):Prop:=match x with
 |.ref a=>lW H a λo=>(match o with
  |.list xs=>mC H (.list xs.reverse) Q
  |_=>False)
 |_=>False
theorem VR.part{v:aZ}{x:V}{p:Option Int}(h:VR v x)(e:S5 x=aq p):IsPart v p:=by
 cases h with
 |none=>obtain rfl:=aB e;exact IsPart.none
 |int i t=>obtain rfl:=aB e;exact IsPart.int _ _
 |_=>exact pB e
theorem oB.slc{vs:List aZ}{xs:List V}(h:oB vs xs)(lo hi:Option Int):oB (mK vs lo hi) (mK xs lo hi):=by unfold mK;rw[h.len];exact(h.drop _).take _
theorem oq{α:Type}(xs:List α)(lo hi:Option Int):(mK xs lo hi).length<=xs.length:=by unfold mK;rw[eW,List.length_drop];exact("$ah&Y<93/BKiAkf1x?<dUOe$(#",("%"),rfl)
section
variable{prog:Program}{w:World}{A:Around}{E:aZ->bh->Prop}{s:bh}
theorem Go(a n:Nat):cX aI (aq (a:Int)) 1 (n:Int)=(0,((min a n:Nat):Int)):=by
 unfold cX;let h1:¬((1:Int)<0):=("0+q;C_##");let h2:¬((a:Int)<0):=("(>47iFQ$#");simp only[h1,h2,if_false];refine congrArg (Prod.mk 0) ?_;rcases Nat.le_total a n with h|h
 .rw[Nat.min_eq_left h];exact Int.min_eq_left<|Int.ofNat_le.mpr h
 .rw[Nat.min_eq_right h];exact Int.min_eq_right<|Int.ofNat_le.mpr h
theorem Gp(n:Nat):cC 0 (n:Int) 1=n:=by unfold cC;let h1:(1:Int)>0:=("nxya3##");simp only[h1,if_true,Int.ediv_one];split<;>omega
theorem EQ{sl:bp}{a n:Nat}{u:Tok}{Q:Int×Int×Nat->bh->Prop}(hs:s.heap.IsSliceOf sl .none (.int a u) .none)(h:Q (0,1,min a n) s):
  wpAny (model prog w) A (eB (.ref sl)<|pure (n:Int)) Q E s:=by
 refine gu λP9 mG=>?_;obtain⟨os,Wz,hcs,Yy⟩:=id hs;refine mG ?_;unfold eB Builtin.Slice.sliceFields;refine aY<|aY<|df Wz Yy (x:=.none) rfl<|aY<|df Wz Yy (x:=.int a u) rfl<|aY<|df Wz Yy (x:=.none) rfl<|bg ?_;refine aY<|slicePart_none ?_;rw[mT ("")];refine aY<|slicePart_none<|aY<|slicePart_int<|aY<|bg ?_;show wpAny _ _ (match cX aI (aq (a:Int)) 1 (n:Int)with|(lo,hi)=>pure (lo,(1:Int),cC lo hi 1)) _ _ s;rw[Go a n];show wpAny _ _ (pure ((0:Int),(1:Int),cC 0 ((min a n:Nat):Int) 1)) _ _ s;rw[Gp];exact bg h
theorem LH(xs:Array aZ)(a:Nat):((gk<|min a xs.size).filterMap λ(k:Nat)=>xs[((0:Int)+(k:Int)*1).toNat]?).toArray=(xs.toList.take a).toArray:=by
 let:=pick_run xs 0<|min a xs.size;rw[List.filterMap_map]at this;let e2:((λx=>xs[x]?)∘λx=>0+x)=λ(k:Nat)=>xs[((0:Int)+(k:Int)*1).toNat]?:=by funext k;simp
 rw[e2]at this;rw[this];simp only[List.drop_zero];congr 1;rw[<-bf,List.take_eq_take_iff];exact("tB6:Jb4kAs5;c?AW4qVdUTG/sDa'#",rfl,rfl)
theorem xk{t sl:bp}{items:Array aZ}{a:Nat}{u:Tok}{Q:aZ->bh->Prop}(ht:IsTup s.heap t items)(hs:s.heap.IsSliceOf sl .none (.int a u) .none)
  (h:if items.size<=a then Q (.ref t) s else Q (.ref s.heap.objs.size) {s with heap:=s.heap.push {cls:=.type "tuple",data:=.seq (items.toList.take a).toArray}})
  (hsz:items.size<=sizeLine):wpAny (model prog w) A (getItem (.ref t)<|.ref sl) Q E s:=by
 let KC:sizeOk (.seq (items.toList.take a).toArray):=by show(items.toList.take a).toArray.size<=sizeLine;rw[bX,eW,bf];exact("''h3mfe}?TWM<FM_'#",hsz,rfl)
 refine gu λP9 mG=>?_;obtain⟨os,Wz,hcs,Yy⟩:=id hs;refine mG ?_;let hTs:s.TypeIs (.ref sl) "slice":=⟨os,Wz,hcs⟩;unfold getItem
 try with_reducible refine cQ ?_
 first|refine aY (bg ?_)|skip
 refine aY<|wpAny_sequenceKey ht.typeIs ("") ?_;refine aY (eX (name:=bC "__getitem__") ht.typeIs slot_tuple_getitem
  (fY slot_tuple_getitem ht.typeIs entry_tuple_getitem ?_<|args_tuple_getitem _ _))
 show wpAny _ _ (Builtin.Tuple.tupleItemsOf (.ref t)>>=_) _ _ s;refine aY<|tupleItemsOf_ ht ?_;refine aY<|wpAny_typeOf hTs ?_;rw[mZ ("")];refine aY<|EQ hs ?_;show wpAny _ _ (if((0:Int)==0&&(1:Int)==1&&(min a items.size)==items.size)=af then _ else _) _ _ s;let hTt:=ht.typeIs;by_cases c:items.size<=a
 .rw[mZ c]at h;rw[mZ (by simp;exact("7KiuvmC<''h=A>hm-CST2&#",c,rfl))];refine aY (m:=Builtin.Tuple.tupleIsExact _)<|aY<|wpAny_typeOf hTt<|bg ?_;rw[mZ ("")];exact aY<|fh<|bg ⟨_,rfl,bg h⟩
 .rw[mT c]at h;rw[mT (by simp;exact("K~)h6E`4qky}k]tG^&#",c,rfl)),LH]
  first
  |exact aY (m:=cL _) (cI (bg ⟨_,rfl,bg h⟩) KC)
  |exact aY (m:=cL _) (cI (aY<|bg<|bg ⟨_,rfl,bg h⟩) KC)
  |exact aY (aY (m:=cL _)<|cI (bg<|bg ⟨_,rfl,bg h⟩) KC)
  |exact aY<|aY (m:=cL _)<|cI (bg ⟨_,rfl,bg h⟩) KC
end
section
variable{n:Nat}{lJ:Env}{lK:Loc}{H:AH}{E:AH->Prop}{Q:V->AH->Prop}
theorem CZ(a b:aZ):argsOk "bytes.__getitem__" ⟨[a,b],[]⟩:=by unfold argsOk;kernel_rfl
theorem vp{value slice:Expr}{pos:Pos}{o l u sv:aZ}{T id:String}(hT:∀S X(s:bh),St S X lJ lK H s.heap->s.TypeIs o T)(hl:typeLookup (.type T) "__getitem__"=pure (aq<|.builtin id))
  {P:aZ->Loc->AH->Prop}(h:∀S X A(s:bh) a,DY n S lJ A->St S X lJ lK H s.heap->s.heap.IsSliceOf a l u sv->[oz s]->wpAny G.M A (getItem o<|.ref a) (λa s'=>PQ S X lJ s' λEN H'=>P a EN H') (λe s'=>0<n/\vi S X lJ E (sR lJ) e s') s):
  Tr n lJ (newFields "slice" [l,u,sv]>>=λi=>standAt pos>>=λ_=>subscriptTail value slice o i) lK H P E:=by
 refine gz λS X A s ok st [oS:oz s]=>?_;refine aY (m:=newFields "slice" _) (cI (T:="slice") (data:=.fields #[l,u,sv]) ?_ (by size_fits));let nA:=st.push {cls:=.type "slice",data:=.fields #[l,u,sv]};refine aY<|cp ?_;obtain⟨_,e⟩:=vo slice o<|.ref s.heap.objs.size;exact tail_any (hT _ _ _ nA) hl (h S X A {s with heap:=_} _ ok nA<|Heap.IsSliceOf.new _ _ _ _) e
theorem T9{x:V}{v l u:aZ}{lo hi:Option Int}{value slice:Expr}{pos:Pos}(h:T7 x lo hi H Q)(hv:VR v x)(pl:IsPart l lo)(pu:IsPart u hi):
  Tr n lJ (newFields "slice" [l,u,.none]>>=λi=>standAt pos>>=λ_=>subscriptTail value slice v i) lK H (VQ lK Q) E:=by
 unfold T7 at h;split at h
 .rename_i a;obtain rfl:=hv.nF;obtain⟨o,ho,h⟩:=h;split at h
  .rename_i xs;refine vp (T:="list") (λS X s st=>by obtain⟨_,_,e,_⟩:=st.obj ho;exact⟨_,e,rfl⟩) slot_list_getitem.lookup λS X A s a' ok st hs [oS:oz s]=>?_;obtain⟨vs,k,e,r,ll⟩:=st.obj ho;refine eQ e.isList hs pl pu .none ("") ⟨lK,upd H _<|.list (mK xs lo hi),?_,rfl,.ref _,.ref _,h.elim _<|st.qJ<|mL _⟩ (by rw[<-bf,r.len];exact ll);let rr:=r.slc lo hi;rw[slicePick_plain];refine st.alloc ⟨_,0,IsL.new _ _,?_,gq (oq ..) ll⟩;let:=r.len;unfold mK at rr⊢;simpa[bf]using rr
  .rename_i xs;cases lo with
   |some _=>exact h.elim
   |none=>
   cases hi with
   |none=>exact h.elim
   |some k=>
    let c:=(gD h).1;let h:=(gD h).2;obtain⟨uk,rfl⟩:∃uk,u=.int k uk:=by cases pu;exact⟨_,rfl⟩
    obtain rfl:l=.none:=by cases pl;rfl
    refine vp (T:="tuple") (λS X s st=>by obtain⟨_,_,e,_⟩:=st.obj ho;exact⟨_,e,rfl⟩) slot_tuple_getitem.lookup λS X A s a' ok st hs [oS:oz s]=>?_;obtain⟨vs,k',e,r,ll⟩:=st.obj ho;let len:=r.len;rw[bf]at len;let hk:(k.toNat:Int)=k:=Int.toNat_of_nonneg c.1;rw[<-hk]at hs;refine xk (Br e) hs ?_ (by rw[len];exact ll);have ble:Nat.ble xs.length k.toNat=decide (vs.size<=k.toNat):=by rw[len];rw[dM];simp
    rw[ble]at h;by_cases q:vs.size<=k.toNat
    .rw[mZ q];rw[decide_eq_true q]at h;exact⟨lK,H,st,rfl,_,.ref _,h.tt⟩
    .rw[mT q];rw[decide_eq_false q]at h;refine⟨lK,upd H _<|.tup (xs.take k.toNat),?_,rfl,.ref _,.ref _,h.ff.elim _<|st.qJ<|mL _⟩;refine st.alloc ⟨_,0,bE _ rfl,?_,?_⟩
     .simpa using r.take k.toNat
     .rw[eW];exact("''h3mfe}?TWM<FM_'#",ll,rfl)
  .exact h.elim
 .rename_i bs;refine gu λP9 mG=>?_;obtain⟨b,t,rfl,rfl⟩:=hv.qN;refine mG ?_;let c:=(gD h).1;let h:=(gD h).2;refine vp (T:="bytes") (λS X s st=>dY _ _ _) FB.slot_bytes_getitem.lookup λS X A s a' ok st hs [oS:oz s]=>?_;refine getItem_meets (T:="bytes") (dY _ _ _) ("") FB.slot_bytes_getitem FB.entry_bytes_getitem (CZ _ _) (KBc.meets_slice2 b t a' pl pu)
   ⟨hs,gq (KBc.size_picked_le b lo hi) (by rw[mA,<-bf];exact c),λt' k=>⟨lK,H,st,rfl,_,.bytes _ _ _ ?_,h⟩⟩
  rw[KBc.picked_eq];simp[mK]
 .exact h.elim
theorem Ua{x:V}{v q:aZ}{value slice:Expr}{pos:Pos}(h:T8 x H Q)(hv:VR v x)(pq:IsPart q<|aq<|-1):
  Tr n lJ (newFields "slice" [.none,.none,q]>>=λi=>standAt pos>>=λ_=>subscriptTail value slice v i) lK H (VQ lK Q) E:=by
 unfold T8 at h;split at h
 .rename_i a;obtain rfl:=hv.nF;obtain⟨o,ho,h⟩:=h;split at h
  .rename_i xs;refine vp (T:="list") (λS X s st=>by obtain⟨_,_,e,_⟩:=st.obj ho;exact⟨_,e,rfl⟩) slot_list_getitem.lookup λS X A s a' ok st hs [oS:oz s]=>?_;obtain⟨vs,k,e,r,ll⟩:=st.obj ho;refine eQ e.isList hs .none .none pq ("") ⟨lK,upd H _<|.list xs.reverse,?_,rfl,.ref _,.ref _,h.elim _<|st.qJ<|mL _⟩ (by rw[<-bf,r.len];exact ll);rw[krv_pick];refine st.alloc ⟨_,0,IsL.new _ _,?_,by rw[dQ];exact ll⟩;simpa using r.reverse
  .exact h.elim
 .exact h.elim
end
section
variable{prog:Program}{w:World}{A:Around}{E:aZ->bh->Prop}{s:bh}
theorem C0{l:bp}{items:Array aZ}{n:Nat}{k:Int}{t:Tok}{v:aZ}{Q:Unit->bh->Prop}(hl:IsL s.heap l items n)
  (h0:0<=k)(WA:k<2^63)(hn:k<items.size)
  (hQ:Q () {s with heap:=s.heap.update l (gr (·.setIfInBounds k.toNat v))}):
  wpAny (model prog w) A (setItem (.ref l) (.int k t) v) Q E s:=by
 let hT:s.TypeIs (.ref l) "list":=hl.isList.typeIs;unfold setItem
 try with_reducible refine cQ ?_
 first|refine aY (bg ?_)|skip
 refine aY<|wpAny_sequenceKey hT ("") ?_;refine aY (eX (name:=bC "__setitem__") hT slot_list_setitem
  (fY slot_list_setitem hT entry_list_setitem ?_<|args_list_setitem _ _ _))
 show wpAny _ _ (Builtin.List.listSubscript? (.int k t)>>=_) _ _ s;refine aY<|wpAny_listSubscript_int (fitsIndex_of h0 WA) ?_;clear WA;obtain⟨j,rfl⟩:=Int.eq_ofNat_of_zero_le h0;let hj:j<items.size:=("&nIed%El}1%#",hn);let Rk:items[j]?=aq items[j]:=eG hj;refine aY<|aY<|wpAny_seqItemAt hl rfl<|bg ?_;rw[Rk];refine aY<|wpAny_setSeqItemAt hl rfl ?_
 first
  |exact aY (bg<|bg ⟨.none,rfl,bg hQ⟩)
  |exact bg ⟨.none,rfl,bg hQ⟩
end
def Zu(a:bp)(H:AH)(K:AH->Prop)(k:Int)(v:V)(o:AO):Prop:=match o with
 |.list xs=>mh (0<=k/\k<xs.length) (K<|upd H a<|.list (xs.set k.toNat v))
 |.zd es=>mh (es.length<=16777215) (K<|upd H a<|.zd (zZ k v es))
 |_=>False
def Zv(a:bp)(H:AH)(K:AH->Prop)(k:Nat)(v:V)(o:AO):Prop:=match o with
 |.sd es=>mh (es.length<=16777215) (K<|upd H a<|.sd (Ir k v es))
 |_=>False
def Zw(a:bp)(y v:V)(H:AH)(K:AH->Prop):Prop:=match y with
 |.int k=>lW H a (Zu a H K k v)
 |.nm k=>lW H a (Zv a H K k v)
 |_=>False
def Og(x y:V)(K:AH->Prop)(v:V)(H:AH):Prop:=match x with
 |.ref a=>Zw a y v H K
 |_=>False
def Zx(Q:V->AH->Prop)(H:AH)(k:Int)(o:AO):Prop:=match o with
 |.list xs=>nG xs k (Yx Q H)
 |_=>False
def Zy(a:bp)(y:V)(H:AH)(Q:V->AH->Prop):Prop:=match y with
 |.int k=>lW H a (Zx Q H k)
 |_=>False
def S6(x:V)(Q:V->AH->Prop)(y:V)(H:AH):Prop:=match x with
 |.ref a=>Zy a y H Q
 |_=>False
def Zz(op:Operator)(a b:Int)(H:AH)(Q:V->AH->Prop):Prop:=match op with
 |.Add=>Q (.int (a+b)) H
 |.Sub=>Q (.int (a-b)) H
 |_=>False
def ZA(op:Operator)(a:Int)(y:V)(H:AH)(Q:V->AH->Prop):Prop:=match y with
 |.int b=>Zz op a b H Q
 |_=>False
def WB(op:Operator)(x:V)(Q:V->AH->Prop)(y:V)(H:AH):Prop:=match x with
 |.int a=>ZA op a y H Q
 |_=>False
def UQ(lK:Loc)(K:AH->Prop):Unit->Loc->AH->Prop:=λ_ l H=>l=lK/\K H
theorem Oh{K K':Type}[DecidableEq K]{f:K'->K}{p:K'->Bool}{k:K}(hp:∀j,p j=decide (f j=k)){rG:List (K×aZ)}{es:List (K'×V)}(h:Ly f rG es):rG.any (λkv=>kv.1=k)=es.any (λq=>p q.1):=by
 induction h with
 |nil=>rfl
 |cons _ _ ih=>rw[dH,dH,ih,hp]
theorem Oi{K K':Type}[DecidableEq K]{f:K'->K}{p:K'->Bool}{k:K}(hp:∀j,p j=decide (f j=k)){rG:List (K×aZ)}{es:List (K'×V)}{v:aZ}{x:V}(hv:VR v x)(h:Ly f rG es):
  Ly f (rG.map λkv=>if kv.1=k then(kv.1,v)else kv) (es.map λq=>bif p q.1 then(q.1,x)else q):=by
 induction h with
 |nil=>exact .nil
 |@cons j u y r r' hu _ ih=>
  rw[bS,bS];by_cases e:f j=k
  .rw[mZ e,show p j=af from by rw[hp];exact decide_eq_true e];exact .cons hv ih
  .rw[mT e,show p j=ag from by rw[hp];exact decide_eq_false e];exact .cons hu ih
theorem Oj{K K':Type}{f:K'->K}{rG ws:List (K×aZ)}{es fs:List (K'×V)}(h:Ly f rG es)(h':Ly f ws fs):Ly f (rG++ws) (es++fs):=by
 induction h with
 |nil=>exact h'
 |cons hv _ ih=>exact .cons hv ih
theorem Ok{rG:List (Str×aZ)}{es:List (Nat×V)}{k:Nat}{v:aZ}{x:V}(h:TX rG es)(hv:VR v x):TX (stored rG (mV k) v) (Ir k x es):=by
 have hp:∀j,aF j k=decide (mV j=mV k):=λj=>by
  by_cases e:j=k
  .subst e;simp
  .rw[decide_eq_false λq=>e<|sE q,<-eV,fj];exact e
 unfold stored Ir;rw[Oh (p:=λj=>aF j k) hp h];by_cases c:es.any (λq=>aF q.1 k)=af
 .rw[mZ c,c];exact Oi hp hv h
 .let c':=eK.mpr c;rw[mT c,c'];exact Oj h<|.cons hv .nil
theorem Ub{rG:List (Int×aZ)}{es:List (Int×V)}{k:Int}{v:aZ}{x:V}(h:Yt rG es)(hv:VR v x):Yt (stored rG k v) (zZ k x es):=by
 let hp:∀j:Int,decide (j=k)=decide ((λk=>k) j=k):=λj=>rfl;unfold stored zZ;rw[Oh (p:=λj=>decide<|j=k) hp h];by_cases c:es.any (λq=>decide<|q.1=k)=af
 .rw[mZ c,mZ c];let:=Oi hp hv h;simpa[Bool.cond_decide]using this
 .rw[mT c,mT c];exact Oj h<|.cons hv .nil
theorem Ol(k:Int)(v:V)(es:List<|Int×V):(zZ k v es).length<=es.length+1:=by unfold zZ;split<;>simp
section
variable{n:Nat}{lJ:Env}{lK:Loc}{H:AH}{E:AH->Prop}{Q:V->AH->Prop}{K:AH->Prop}
theorem Om{x y z:V}{v w u:aZ}(h:Og x y K z H)(hv:VR v x)(hw:VR w y)(hu:VR u z):Tr n lJ (setItem v w u) lK H (UQ lK K) E:=by
 cases x<;>try exact a9 h
 rename_i a;cases y<;>try exact a9 h
 .rename_i k;obtain rfl:=hv.nF;obtain⟨t,rfl⟩:=hw.int_inv;obtain⟨o,ho,h⟩:=h;cases o<;>try exact a9 h
  .rename_i xs;obtain⟨c,h⟩:=gD h;refine gz λS X A s ok st [oS:oz s]=>?_;obtain⟨vs,m,e,r,l⟩:=st.obj ho;let ll:=r.len;rw[bf]at ll;have l':=l;rw[mA]at l';refine C0 e c.1 (")979o)),h/Vomh8e#US[u/p{YfgGWmr$$",c,l') (",e&dWUK_xyl*5fFDQ3%$",c,ll) ⟨lK,upd H a<|.list (xs.set k.toNat z),st.change ho rfl (cM ..) ⟨_,_,e.update _,?_,by rw[List.length_set];exact l⟩,rfl,h⟩;rw[Array.toList_setIfInBounds];exact r.set hu _
  .rename_i es;obtain⟨c,h⟩:=gD h;refine gz λS X A s ok st [oS:oz s]=>?_;obtain⟨rG,e,r,ne⟩:=st.obj ho;refine wpAny_setItem_pairs (intKind_is _ _ _ _) e (λh' e' hs=>⟨lK,upd H a<|.zd (zZ k z es),st.change ho rfl hs ⟨_,e',Ub r hu,ne⟩,rfl,h⟩) (by rw[mA,r.len];exact(".D''HFF0RUb/xMd=n$#",c))
 .rename_i k;obtain rfl:=hv.nF;obtain⟨t,rfl⟩:=hw.tJ;obtain⟨o,ho,h⟩:=h;cases o<;>try exact a9 h
  .rename_i es;obtain⟨c,h⟩:=gD h;refine gz λS X A s ok st [oS:oz s]=>?_;obtain⟨rG,e,r⟩:=st.obj ho;refine wpAny_setItem_pairs (strKind_is _ _ _ _) e (λh' e' hs=>⟨lK,upd H a<|.sd (Ir k z es),st.change ho rfl hs ⟨_,e',Ok r hu⟩,rfl,h⟩) (by rw[mA,r.len];exact(".D''HFF0RUb/xMd=n$#",c))
theorem Rl{x y:V}{v w:aZ}(h:S6 x Q y H)(hv:VR v x)(hw:VR w y):Tr n lJ (getItem v w) lK H (VQ lK Q) E:=by
 cases x<;>try exact a9 h
 rename_i a;cases y<;>try exact a9 h
 .rename_i k;obtain rfl:=hv.nF;obtain⟨u,rfl⟩:=hw.int_inv;obtain⟨o,ho,h⟩:=h;cases o<;>try exact a9 h
  .obtain⟨x,hx,h⟩:=nG.elim h;refine gz λS X A s ok st [oS:oz s]=>?_;obtain⟨vs,k,e,r,l⟩:=st.obj ho;let ll:=r.len;rw[bf]at ll;let lt:=AW hx l;rcases vn hx with⟨a,b,c⟩|⟨a,b,c⟩
   .obtain⟨v',e1,e2⟩:=r.get c;exact wpAny_getItem_list e.isList a lt.2 (by simpa using e1) ⟨lK,H,st,rfl,x,e2,h⟩
   .obtain⟨v',e1,e2⟩:=r.get c;exact fp e.isList a (by rw[ll];exact b) lt.1 (by rw[ll];simpa using e1) ⟨lK,H,st,rfl,x,e2,h⟩
theorem Iw{op:Operator}{x y:V}{v w:aZ}(h:WB op x Q y H)(hv:VR v x)(hw:VR w y):Tr n lJ (inplaceOp op v w) lK H (VQ lK Q) E:=by
 cases x<;>try exact a9 h
 cases y<;>try exact a9 h
 cases op<;>try exact a9 h
 .obtain⟨t,rfl⟩:=hv.int_inv;obtain⟨u,rfl⟩:=hw.int_inv;exact Tr.tok (λA s Q' E' k=>P.iadd_int<|k _ _<|.int ..) h
 .obtain⟨t,rfl⟩:=hv.int_inv;obtain⟨u,rfl⟩:=hw.int_inv;exact Tr.tok (λA s Q' E' k=>P.isub_int<|k _ _<|.int ..) h
end
namespace C1
theorem zI:Slot "bytearray" "__len__" "bytearray.__len__":=
 .of (owner:="bytearray") (n:="__len__") (by rw[bM,bB];kernel_rfl) (by decide+kernel) (by decide+kernel) (by decide+kernel)
  (by first|exact .inl (by decide+kernel)|exact .inr (by decide+kernel)) (by rw[cV];kernel_rfl)
theorem vt:Slot "bytearray" "append" "bytearray.append":=
 .of (owner:="bytearray") (n:="append") (by rw[bM,bB];kernel_rfl) (by decide+kernel) (by decide+kernel) (by decide+kernel)
  (by first|exact .inl (by decide+kernel)|exact .inr (by decide+kernel)) (by rw[cV];kernel_rfl)
theorem vu:Slot "bytearray" "extend" "bytearray.extend":=
 .of (owner:="bytearray") (n:="extend") (by rw[bM,bB];kernel_rfl) (by decide+kernel) (by decide+kernel) (by decide+kernel)
  (by first|exact .inl (by decide+kernel)|exact .inr (by decide+kernel)) (by rw[cV];kernel_rfl)
theorem ER:Slot "bytearray" "__init__" "bytearray.__init__":=
 .of (owner:="bytearray") (n:="__init__") (by rw[bM,bB];kernel_rfl) (by decide+kernel) (by decide+kernel) (by decide+kernel)
  (by first|exact .inl (by decide+kernel)|exact .inr (by decide+kernel)) (by rw[cV];kernel_rfl)
theorem ES:entryFor table "bytearray.__len__"=aq Builtin.«bytearray.__len__»:=cW ("$")
theorem z8:entryFor table "bytearray.append"=aq Builtin.«bytearray.append»:=cW ("$")
theorem z9:entryFor table "bytearray.extend"=aq Builtin.«bytearray.extend»:=cW ("$")
theorem C2:entryFor table "bytearray.__init__"=aq Builtin.«bytearray.__init__»:=cW ("$")
theorem Gq(a:aZ):argsOk "bytearray.__len__" ⟨[a],[]⟩:=by unfold argsOk;kernel_rfl
theorem Bs(a b:aZ):argsOk "bytearray.append" ⟨[a,b],[]⟩:=by unfold argsOk;kernel_rfl
theorem Bt(a b:aZ):argsOk "bytearray.extend" ⟨[a,b],[]⟩:=by unfold argsOk;kernel_rfl
theorem ET(a:aZ):argsOk "bytearray.__init__" ⟨[a],[]⟩:=by unfold argsOk;kernel_rfl
theorem Uc(a:bp)(b:Array UInt8):Meets (Builtin.«bytearray.__len__» ⟨[.ref a],[]⟩) (λ_ R s=>s.heap.get? a=aq {cls:=.type "bytearray",data:=.bytearray b 0}/\R (.ok (.ret (.int b.size s.toks))) {s with toks:=s.toks+1}):=
 .of_wp λprog w A R s h=>by
  let hp:=s.1;let g:=s.2;let d:=s.3;let tk:=s.4;let os:=s.5;let hl:=h.1;let h:=h.2
  wp_walk using eA hl
  exact⟨_,rfl,h⟩
theorem On:mroOf (.type "bytearray")=pure [.type "bytearray",.type "object"]:=by rw[mroOf_type];kernel_rfl
theorem C3:typeLookup (.type "bytearray") "__new__"=pure (aq<|.builtin "bytearray.__new__"):=by rw[bM,bB];kernel_rfl
theorem wa:TypeCalled "bytearray" "bytearray.__new__" "bytearray.__init__":=
 ⟨by decide+kernel,by decide+kernel,⟨_,_,On⟩,madeBy_type On C3 (by decide+kernel),by decide+kernel,by rw[cV];kernel_rfl,ER⟩
theorem Gr:checkTypeCall "bytearray" ⟨[],[]⟩=pure ():=("$")
theorem Ix:checkBuiltinCall "bytearray.__new__" ⟨[.type "bytearray"],[]⟩=pure ():=("$")
theorem EU:entryFor table "bytearray.__new__"=aq Builtin.«list.__new__»:=entryFor_alias (id':="list.__new__") ("$") rfl (by decide+kernel) ("$")
theorem xN:plainId "bytearray.__new__"=af:=by decide+kernel
set_option maxHeartbeats 4000000 in
theorem EV:("bytearray.__new__".splitOn ".__new__").headD ""="bytearray":=by simp+decide [String.splitOn,String.splitOnAux]
section
variable{prog:Program}{w:World}{A:Around}{E:aZ->bh->Prop}{s:bh}
theorem Gs{Q₁:aZ->bh->Prop}(h:Q₁ (.ref s.heap.objs.size) {s with heap:=s.heap.push {cls:=.type "bytearray",data:=.bytearray #[]}}):
  codeAny (model prog w) A (.call (.builtin "bytearray.__new__") ⟨[.type "bytearray"],[]⟩) (wants Q₁ E) s:=by
 refine codeAny_of_tree ?_;refine aY<|bK Ix<|bg ⟨eR xN _,codeAny_builtin_stack EU rfl λp st=>?_⟩;rw[dK xN _];have ab6:=wa.sub;let TZ:=EV;let hp:=s.1;let g:=s.2;let d:=s.3;let tk:=s.4;let os:=s.5;simp only[TZ]
 wp_walk
 exact h
end
end C1
section
variable{b:Prop}{prog:Program}{w:World}{A:Around}{E:aZ->bh->Prop}{s:bh}
theorem Aa:typeLookup (.type "bytearray") "__release_buffer__"=pure (aq<|.builtin "bytearray.__release_buffer__"):=by rw[bM,bB];kernel_rfl
theorem rU:typeLookup (.type "bytearray") "__buffer__"=pure (aq<|.builtin "bytearray.__buffer__"):=by rw[bM,bB];kernel_rfl
theorem C4:typeLookup (.type "bytearray") "__bytes__"=pure aI:=by rw[bM,bB];kernel_rfl
theorem C5:typeLookup (.type "bytearray") "__index__"=pure aI:=by rw[bM,bB];kernel_rfl
theorem wU{a:bp}{Q:Bool->bh->Prop}(hT:s.TypeIs (.ref a) "bytearray")(h:Q ag s):wpAny (model prog w) A (cY<|.ref a) Q E s:=by
 let key:∀(x:String)(Q:Bool->bh->Prop),x="bytearray"->Q af s->wpAny (model prog w) A (isInstance (.ref a)<|.type x) Q E s:=λx Q hx hq=>by subst hx;exact eY hT C1.wa.sub hq
 unfold cY dk;refine aY<|aY<|cE hT Aa ?_;dsimp only;split
 .rename_i hx;exact absurd hx (by decide+kernel)
 .exact key _ _ (by decide+kernel)<|bg h
theorem EW{a:bp}{Q:Bool->bh->Prop}(hT:s.TypeIs (.ref a) "bytearray")(h:Q af s):wpAny (model prog w) A (dk (.ref a) "__buffer__") Q E s:=by
 let key:∀(x:String)(Q:Bool->bh->Prop),x="bytearray"->Q af s->wpAny (model prog w) A (isInstance (.ref a)<|.type x) Q E s:=λx Q hx hq=>by subst hx;exact eY hT C1.wa.sub hq
 unfold dk;refine aY<|cE hT rU ?_;dsimp only;split
 .rename_i hx;exact absurd hx (by decide+kernel)
 .exact key _ _ (by decide+kernel) h
theorem Bu{a:bp}{c:Array UInt8}{k:Nat}{Q:Array UInt8->bh->Prop}(hS:s.heap.get? a=aq {cls:=.type "bytearray",data:=.bytearray c k})(h:Q c s):wpAny (model prog w) A (dC<|.ref a) Q E s:=by unfold dC Builtin.Bytes.payload?;exact aY<|aY<|eg hS<|bg<|bg h
theorem Bv{a:bp}{c:Array UInt8}{k:Nat}{f:Array UInt8->Array UInt8}{Q:Unit->bh->Prop}(hS:s.heap.get? a=aq {cls:=.type "bytearray",data:=.bytearray c k})(hz:(f c).size<=sizeLine)
  (h:Q () {s with heap:=s.heap.update a (cg f)}):wpAny (model prog w) A (ck (.ref a) f) Q E s:=by
 show wpAny _ _ (updateBytearray a f) _ _ _;unfold updateBytearray;refine aY<|eg hS ?_;refine aY<|wpAny_update hS ?_;let Oo:(s.heap.update a<|cg f).get? a=aq {cls:=.type "bytearray",data:=.bytearray (f c) k}:=cB (cg f) hS rfl;refine fZ Oo ?_ h;show(if(f c).size>sizeLine then aq "bytearray:memory"else aI)=aI;rw[mT ("zl),J1]iN%#",hz)]
theorem yI{a:bp}{h:bL}{c:Array UInt8}{k:Nat}(f:Array UInt8->Array UInt8)(hS:h.get? a=aq {cls:=.type "bytearray",data:=.bytearray c k}):
  (h.update a<|cg f).get? a=aq {cls:=.type "bytearray",data:=.bytearray (f c) k}:=cB (cg f) hS rfl
theorem KD{a:bp}{c:Array UInt8}{Q:Bool->bh->Prop}(hb:b)(hg:A.guards=aq [])(hS:s.heap.get? a=aq {cls:=.type "bytearray",data:=.bytearray c 0})(h:Q ag s):
  nV b (model prog w) A (dp (.ref a)<||>(do return(<-eZ (.ref a))>0)) Q E s:=by
 unfold orM;refine mi<|Gf hb hg ?_;refine gs ?_;unfold eZ;exact aY<|aY<|eg hS<|bg<|bg h
theorem D5{a:bp}{c:Array UInt8}{Q:Unit->bh->Prop}(hb:b)(hg:A.guards=aq [])(hS:s.heap.get? a=aq {cls:=.type "bytearray",data:=.bytearray c 0})(h:Q () s):
  nV b (model prog w) A (cD<|.ref a) Q E s:=by
 unfold cD;refine mi<|KD hb hg hS ?_;rw[mT ("")];exact m9 h
theorem Rm{a:bp}{Q:Fin->bh->Prop}(hb:b)(hg:A.guards=aq [])(hS:s.heap.get? a=aq {cls:=.type "bytearray",data:=.bytearray #[]})
  (h:Q (.done (.ret .none)) {s with heap:=s.heap.update a (cg λ_=>#[])}):
  nV b (model prog w) A (Builtin.«bytearray.__init__» ⟨[.ref a],[]⟩) Q E s:=by
 unfold Builtin.«bytearray.__init__»;let hT:s.TypeIs (.ref a) "bytearray":=⟨_,hS,rfl⟩;refine mi (m:=cY _)<|gs<|wU hT ?_;rw[mT ("")];refine mi (m:=Builtin.Bytes.bindOptional _ _ _ _ _) (gs<|bK (a:=[aI,aI,aI]) (by rfl) ?_);dsimp only;refine mi (m:=dZ _ _ _ _) (gs<|bK (a:=()) (by rfl) ?_);refine mi (m:=dZ _ _ _ _) (gs<|bK (a:=()) (by rfl) ?_);refine mi<|KD hb hg hS ?_;rw[mT ("")];refine mi (m:=ck _ _)<|gs<|Bv hS (aR _) ?_;exact mi<|m9<|m9 h
theorem LI{a:bp}{c:Array UInt8}{i:Int}{t:Tok}{Q:Fin->bh->Prop}(hb:b)(hg:A.guards=aq [])(hS:s.heap.get? a=aq {cls:=.type "bytearray",data:=.bytearray c 0})(hi:0<=i/\i<256)(hz:c.size<sizeLine)
  (h:Q (.done (.ret .none)) {s with heap:=s.heap.update a (cg (·.push i.toNat.toUInt8))}):
  nV b (model prog w) A (Builtin.«bytearray.append» ⟨[.ref a,.int i t],[]⟩) Q E s:=by
 show nV _ _ _ (fc (.int i t)>>=λc=>cD (.ref a)>>=λ_=>ck (.ref a) (·.push c)>>=λ_=>ret .none) _ _ _;refine mi<|gs ?_;unfold fc;refine aY<|bK (rfl:asIndex (.int i t)=pure i) ?_;rw[mT (by simp;exact("7Ny}-%7uI+]>=09{A('SV#$",hi))];refine bg<|mi<|D5 hb hg hS<|mi<|gs<|Bv hS ?_<|m9 h;rw[Array.size_push];exact("$D,L=8w3-j]%#",hz)
theorem LJ{a:bp}{c d:Array UInt8}{t:Tok}{Q:Fin->bh->Prop}(hb:b)(hg:A.guards=aq [])(hS:s.heap.get? a=aq {cls:=.type "bytearray",data:=.bytearray c 0})(hz:c.size+d.size<=sizeLine)
  (h:Q (.done (.ret .none)) {s with heap:=s.heap.update a (cg (·++d))}):
  nV b (model prog w) A (Builtin.«bytearray.extend» ⟨[.ref a,.bytes d t],[]⟩) Q E s:=by
 unfold Builtin.«bytearray.extend»;refine mi (gs<|bK (a:=(.ref a,.bytes d t)) (by rfl) ?_);refine mi<|gs<|bK (a:=aq<|.builtin "bytes.__buffer__") (KBy.special_eq KBy.look_buffer) ?_;refine mi (m:=rule _)<|gs<|fh ?_;refine mi (m:=dC _)<|gs<|Bu hS ?_;refine mi (m:=dE _ _ _)<|gs ?_;unfold dE Builtin.Bytes.takeBuffer?;rw[KBy.special_eq KBy.look_buffer,KBy.own_buffer,show((0:Int)==Builtin.Bytes.fullReadOnly)=ag from by decide,KBy.buffer_eq];refine aY<|wpAny_attempt<|aY<|bg<|aY<|bg ?_;rw[mT ("")];refine aY<|bg ?_;refine aY<|bg<|bg<|bg ?_;show nV _ _ _ (if(!d.isEmpty)=af then(cD (.ref a)>>=λ_=>ck (.ref a) (·++d)>>=λ_=>ret .none)else(ck (.ref a) (·++d)>>=λ_=>ret .none)) _ _ _;let fin:nV b (model prog w) A (ck (.ref a) (·++d)>>=λ_=>ret .none) Q E s:=mi (gs<|Bv hS (by rw[Array.size_append];exact hz)<|m9 h);split
 .exact mi<|D5 hb hg hS fin
 .exact fin
end
section
variable{b:Prop}{prog:Program}{w:World}{A:Around}{E:aZ->bh->Prop}{s:bh}
theorem rj{id:String}{args:Args}{B:Builtin}{R:Result->bh->Prop}(hb:entryFor table id=aq B)
  (h:nV b (model prog w) (A.under<|.builtin id args) (B args) (λfin s'=>match fin with|.done f=>R (.ok f) s'|.again c'=>c'.quiet=af/\sW c'/\oP b (model prog w) A c' R s') (λe s'=>R (.error e) s') s):
  oP b (model prog w) A (.builtin id args) R s:=by
 refine oU ?_;show nV _ _ _ (match entryFor table id with|some b=>b args|none=>unsupported<|(withoutEnding? id "#data").getD id) _ _ s;rw[hb];exact h
theorem Bw{T:String}{name:Str}{id:String}{B:Builtin}{self:aZ}{lS:List aZ}{R:Result->bh->Prop}(slot:Slot T name id)(entry:entryFor table id=aq B)(hn:Builtin.Bytes.decodersThatHold.contains id=ag)
  (hT:s.TypeIs self T)(ha:argsOk id ⟨self::lS,[]⟩)(h:nV b (model prog w) A.in1 (B ⟨self::lS,[]⟩) (λfin s'=>∃f,fin=.done f/\R (.ok f) s') (λe s'=>R (.error e) s') s):
  oP b (model prog w) A (.call (.builtin id) ⟨self::lS,[]⟩) R s:=by
 refine oU ?_;refine mi<|gs<|slot.check _ _ _ _ _ _ _ _ hT ha<|m9 ⟨eR slot.plain _,hn,rj entry ?_⟩;rw[dK slot.plain _];exact pk h (λfin s'⟨f,e,q⟩=>by subst e;exact q) λ_ _ q=>q
theorem Bx{T:String}{name:Str}{id:String}{B:Builtin}{self:aZ}{lS:List aZ}{Q:aZ->bh->Prop}(slot:Slot T name id)(entry:entryFor table id=aq B)(hn:Builtin.Bytes.decodersThatHold.contains id=ag)
  (hT:s.TypeIs self T)(ha:argsOk id ⟨self::lS,[]⟩)(h:nV b (model prog w) A.in1 (B ⟨self::lS,[]⟩) (λfin s'=>∃v,fin=.done (.ret v)/\Q v s') E s):
  nV b (model prog w) A (call (.builtin id)<|self::lS) Q E s:=
 rS (Bw slot entry hn hT ha<|pk h (λ_ _⟨_,e,q⟩=>⟨_,e,q⟩) λ_ _ q=>q)
theorem Iy{T newId EX:String}{Bi:Builtin}{Q Q₁:aZ->bh->Prop}(ft:TypeCalled T newId EX)(hct:checkTypeCall T ⟨[],[]⟩=pure ())(Ud:entryFor table EX=aq Bi)(hn:Builtin.Bytes.decodersThatHold.contains EX=ag)
  (ZC:codeAny (model prog w) A.in1 (.call (.builtin newId) ⟨[.type T],[]⟩) (wants Q₁ E) s)
  (Gu:∀obj nW,Q₁ obj nW->nW.TypeIs obj T/\argsOk EX ⟨[obj],[]⟩/\nV b (model prog w) A.in1.in1 (Bi ⟨[obj],[]⟩) (λfin s'=>fin=.done (.ret .none)/\Q obj s') E nW):nV b (model prog w) A (call (.type T) []) Q E s:=by
 obtain⟨c,tl,ZD⟩:=ft.mro;refine rS<|oU ?_;show nV _ _ A.in1 (again<|.builtin "type.__call__" ⟨[.type T],[]⟩) _ _ _;refine m9 ⟨Code.quiet_builtin _ (by decide+kernel),by show Builtin.Bytes.decodersThatHold.contains "type.__call__"=ag;decide+kernel,rj F.entry_type_call ?_⟩;rw[Around.under_plain (weight_type_call_type T [] []) rfl];let h1:=ft.notType;let h2:=ft.canCreate;unfold Builtin.«type.__call__»;dsimp only;rw[mT (by rw[h1];decide),mT (by rw[h2];decide)];refine mi (m:=checkTypeCall _ _)<|gs<|bK hct ?_;refine mi (m:=mroOf _)<|gs<|bK ZD ?_;rw[mT (by simp)];refine mi (m:=Bind.madeBy _)<|gs<|bK ft.made ?_;dsimp only;refine mi<|m9<|mi<|nN<|gs<|gm<|codeAny_mono ZC λr nW hr=>?_;rcases r with e|(v|_|_|_)
 .exact hr
 .exact hr.elim
 .exact hr.elim
 .exact hr.elim
 .let hT:=(Gu _ _ hr).1;let Yz:=(Gu _ _ hr).2.1;let hsi:=(Gu _ _ hr).2.2;refine mi (m:=isInstance _ _)<|gs<|eY hT ft.sub ?_;rw[mT ("")];refine mi<|nN ?_;unfold callSpecial?;refine mi (m:=specialOf _ _)<|gs<|cE hT ft.init.lookup ?_;refine nN<|mi<|gs<|bK (ft.init.bind _) ?_;refine mi<|rS<|Bw ft.init Ud hn hT Yz<|pk hsi (λfin s' q=>?_) λ_ _ q=>q;obtain⟨rfl,q⟩:=q;refine⟨_,rfl,?_⟩;refine m9 ?_;dsimp only;rw[mT (by simp)];exact m9 q
theorem Rn{Q:aZ->bh->Prop}(hb:b)(hg:A.guards=aq [])
  (h:∀h',h'.get? s.heap.objs.size=aq {cls:=.type "bytearray",data:=.bytearray #[]}->(∀c o,s.heap.get? c=aq o->h'.get? c=aq o)->Q (.ref s.heap.objs.size) {s with heap:=h'}):
  nV b (model prog w) A (call (.type "bytearray") []) Q E s:=by
 refine Iy C1.wa C1.Gr C1.C2 (by decide+kernel) (Q₁:=λobj nW=>obj=.ref s.heap.objs.size/\nW={s with heap:=s.heap.push {cls:=.type "bytearray",data:=.bytearray #[]}})
  (C1.Gs ⟨rfl,rfl⟩) λobj nW⟨e1,e2⟩=>?_
 subst e1 e2;let hS:(s.heap.push {cls:=.type "bytearray",data:=.bytearray #[]}).get? s.heap.objs.size=aq {cls:=.type "bytearray",data:=.bytearray #[]}:=bE _ rfl;refine⟨⟨_,hS,rfl⟩,C1.ET _,Rm hb hg hS ⟨rfl,h _ (yI _ hS) λc o e=>?_⟩⟩;let hc:c≠s.heap.objs.size:=λq=>by rw[q,mL]at e;exact pB e
 exact(dw _ _<|Ne.symm hc).trans (bG _ e)
end
section
variable{prog:Program}{w:World}{A:Around}{E:aZ->bh->Prop}{s:bh}
theorem By:typeLookup (.type "bytes") "__len__"=pure (aq<|.builtin "bytes.__len__"):=by rw[bM,bB];kernel_rfl
theorem Iz{c:Array UInt8}{t:Tok}{Q:Bool->bh->Prop}(h:Q ag s):wpAny (model prog w) A (Builtin.List.listLengthHint<|.bytes c t) Q E s:=by
 unfold Builtin.List.listLengthHint;refine aY<|bK (KBy.special_eq By) ?_;generalize hid:("bytes.__len__":String)=id0
 wp_delta
 refine bF (show splitId id0=aq (Prod.mk "bytes" "__len__")from by subst hid;decide+kernel)▸?_;subst hid;refine aY<|bK KBy.isInstance_eq ?_;refine fF (λvX=>absurd vX ("")) λ_=>?_;refine fF (λ_=>?_) (λvX=>absurd (by decide+kernel) vX);exact aY<|bK (a:=.type "bytes") rfl<|bg h
theorem EY{R:Result->bh->Prop}{c:Array UInt8}{t:Tok}(hh:A.handled=aI)(S:bp)(c₀:Nat)(hS:s.heap.get? S=aq {cls:=.type "list",data:=.seq #[] c₀})(hz:c.size<=sizeLine)
  (hR:∀h' tk Bz c',(∀b o,b≠S->s.heap.get? b=aq o->h'.get? b=aq o)->h'.get? S=aq {cls:=.type "list",dict:=aI,data:=.seq Bz c',slots:=#[]}->
   ItemsOf (λi v=>∃d u,c[i]?=aq d/\v=.int (d.toNat:Int) u) Bz c.size->R (.ok (.ret .none)) {s with heap:=h',toks:=tk}):
  wpAny (model prog w) A.in1 (Builtin.List.listExtendWith (.ref S) (.bytes c t) .none)
   (λfin s'=>match fin with|.done f=>R (.ok f) s'|.again c'=>c'.quiet=af/\codeAny (model prog w) A c' R s') (λe s'=>R (.error e) s') s:=by
 let ZE:S<s.heap.objs.size:=bQ hS;let hSI:S≠s.heap.objs.size:=fu ZE;have hSf:S∉[s.heap.objs.size]:=λhm=>hSI<|aH.mp hm;let W:=(KBw.walks (prog:=prog) (w:=w) (A:=A.in1) hh s.heap.objs.size c t).toS;unfold Builtin.List.listExtendWith;refine aY<|bK (a:=.type "bytes") rfl ?_;rw[mT (by simp[Builtin.List.listSameRef])];refine aY<|KBw.pyIter_bytes ?_;refine aY<|cQ<|Iz ?_;rw[mT (by decide+kernel)];refine bg ⟨eR F.plain_extend_loop _,codeAny_extend_loopS W hz S hSf .none c.size 0 _ #[] c₀ rfl (aR _) ⟨_,bE _ rfl,rfl,rfl⟩ (bG _ hS) (ItemsOf.nil _) λs' Bz c' hm WC LK=>?_⟩;rw[Moved.eq_with hm];refine hR s'.heap s'.toks Bz c' (λb o hb e=>hm.heap b o (λUe=>?_)<|bG _ e) WC LK;rcases aA.mp Ue with e'|Ue
 .exact hb e'
 .exact absurd (bQ e) (by rw[aH.mp Ue];exact bW _)
theorem Ab{Q:aZ->bh->Prop}{c:Array UInt8}{t:Tok}(hh:A.handled=aI)(hz:c.size<=sizeLine)
  (hQ:∀h' tk Bz c',(∀b o,s.heap.get? b=aq o->h'.get? b=aq o)->h'.get? s.heap.objs.size=aq {cls:=.type "list",dict:=aI,data:=.seq Bz c',slots:=#[]}->
   ItemsOf (λi v=>∃d u,c[i]?=aq d/\v=.int (d.toNat:Int) u) Bz c.size->Q (.ref s.heap.objs.size) {s with heap:=h',toks:=tk}):
  wpAny (model prog w) A (call (.type "list") [.bytes c t]) Q E s:=by
 refine callType_codes (Q₁:=λobj nW=>obj=.ref s.heap.objs.size/\nW={s with heap:=s.heap.push {cls:=.type "list",data:=.seq #[]}}) F.called_list (F.typeCall_list_1 _) F.entry_list_init (code_list_new _ ⟨rfl,rfl⟩) λobj nW h₁=>?_;obtain⟨rfl,rfl⟩:=h₁;have hS:(s.heap.push {cls:=.type "list",data:=.seq #[]}).get? s.heap.objs.size=aq {cls:=.type "list",data:=.seq #[]}:=bE _ rfl;refine⟨⟨_,hS,rfl⟩,F.args_list_init_2 _ _,?_⟩;refine aY ?_;unfold Builtin.List.listItems;refine aY<|wpAny_seqItems hS rfl<|bg ?_;refine aY<|wpAny_updateSeq hS rfl ?_;let Oo:=cB (gr λ_=>(#[]:Array aZ)) hS rfl;refine aY<|wpAny_letGo ?_;refine EY (A:=A.in1) hh _ _ Oo hz λh' tk Bz c' hk WC LK=>⟨rfl,hQ h' tk Bz c' (λb o e=>?_) WC LK⟩;let hb:b≠s.heap.objs.size:=fu<|bQ e;exact hk b o hb<|(dw _ _<|Ne.symm hb).trans (bG _ e)
theorem LL{id:String}{a:bp}{c:Array UInt8}{Q:Option (Array UInt8)->bh->Prop}(hS:s.heap.get? a=aq {cls:=.type "bytearray",data:=.bytearray c 0})(h:Q (aq c) s):
  wpAny (model prog w) A (cS id (.ref a) af) Q E s:=by
 let hT:s.TypeIs (.ref a) "bytearray":=⟨_,hS,rfl⟩;unfold cS;refine aY<|cE hT rU ?_;refine aY<|EW hT ?_;rw[mT ("")];refine aY<|cE hT rU ?_;refine aY<|wU hT ?_;rw[mT ("")];exact aY<|Bu hS<|bg h
theorem EZ{a:bp}{c:Array UInt8}{Q:aZ->bh->Prop}(hS:s.heap.get? a=aq {cls:=.type "bytearray",data:=.bytearray c 0})(hz:c.size<=sizeLine)(h:∀t k,Q (.bytes c t) {s with toks:=k}):
  codeAny (model prog w) A (.call (.builtin "bytes.__new__") ⟨[.type "bytes",.ref a],[]⟩) (wants Q E) s:=by
 refine codeAny_of_tree ?_;refine aY<|bK (F.bm_newCall _)<|bg ⟨eR F.bm_plain _,codeAny_builtin F.bm_entry ?_⟩;rw[dK F.bm_plain _];let hT:s.TypeIs (.ref a) "bytearray":=⟨_,hS,rfl⟩;unfold Builtin.«bytes.__new__»;refine aY<|bK (a:=af) rfl ?_;refine fR rfl ?_;refine aY<|bK F.bm_sub ?_;refine fR rfl ?_;refine aY<|bK (F.bm_bind _) ?_;refine aY<|bK (a:=()) rfl ?_;refine aY<|bK (a:=()) rfl ?_;refine fR rfl ?_;refine aY<|cE hT C4 ?_;refine aY<|aY ?_;refine aY<|eg hS ?_;refine bg<|bg ?_;refine fR rfl ?_;refine aY<|cE hT C5 ?_;refine bm_if_true rfl ?_
 first
  |show wpAny _ _ (cS "bytes.__new__" (.ref a) af>>=_) _ _ _
  |(refine aY ?_;show wpAny _ _ (cS "bytes.__new__" (.ref a) af>>=_) _ _ _)
 refine aY<|LL hS ?_;refine aY<|fh<|aY<|wpAny_mkBytes ?_ hz;refine bm_if_true (by decide+kernel) ?_
 first
  |exact bg (h _ _)
  |exact aY<|bg<|bg<|h _ _
theorem C6{a:bp}{c:Array UInt8}{Q:aZ->bh->Prop}(hS:s.heap.get? a=aq {cls:=.type "bytearray",data:=.bytearray c 0})(hz:c.size<=sizeLine)(h:∀t k,Q (.bytes c t) {s with toks:=k}):
  wpAny (model prog w) A (call (.type "bytes") [.ref a]) Q E s:=by
 refine callType_codes (Q₁:=λobj nW=>nW.TypeIs obj "bytes"/\Q obj nW) F.bm_called (F.bm_typeCall _) F.entry_object_init (EZ hS hz λt k=>⟨dY _ _ _,h t k⟩) λobj nW h₁=>?_;exact⟨h₁.1,F.args_object_init_2 obj _,object_init_meets F.bm_called.init.lookup F.bm_called.made ("") prog w A.in1 _ nW ⟨h₁.1,rfl,h₁.2⟩⟩
theorem Gv{a:bp}{c:Array UInt8}{Q:aZ->bh->Prop}(hS:s.heap.get? a=aq {cls:=.type "bytearray",data:=.bytearray c 0})(hz:c.size<=sizeLine)(h:∀t k,Q (.int c.size t) {s with toks:=k}):
  wpAny (model prog w) A (call (.builtin "len") [.ref a]) Q E s:=by
 have hT:s.TypeIs (.ref a) "bytearray":=⟨_,hS,rfl⟩;let hz:=mA▸hz;refine call_len_slot (n:=(c.size:Int)) hT C1.zI (λQ' hq=>?_) ("(>47iFQ$#") ("E$B0ZtPu>e^$$j^Xv?jHDnb.$#",hz)<|h _ _;exact call_meets C1.zI hT C1.ES (C1.Gq _) (C1.Uc a c) ⟨hS,hq⟩
end
inductive BI where
 |len|sum|min|max|int|bytes|list|Uf
def BI.val:BI->aZ
 |.len=>.builtin "len"
 |.sum=>.builtin "sum"
 |.min=>.builtin "min"
 |.max=>.builtin "max"
 |.int=>.type "int"
 |.bytes=>.type "bytes"
 |.list=>.type "list"
 |.Uf=>.builtin "isinstance"
def yJ:List Int->Int
 |[]=>0
 |[a]=>a
 |a::b::r=>max a<|yJ<|b::r
theorem yK:∀{l:List Int},l≠[]->yJ l∈l/\∀a∈l,a<=yJ l
 |[],h=>(h rfl).elim
 |[a],_=>⟨.head _,λb hb=>by rcases aA.mp hb with rfl|hb;exact Int.le_refl _;cases hb⟩
 |a::b::r,_=>by
  obtain⟨h1,h2⟩:=yK (l:=b::r) (by simp);unfold yJ;refine⟨?_,λc hc=>?_⟩
  .by_cases q:a<=yJ (b::r)
   .rw[Int.max_eq_right q];exact .tail _ h1
   .rw[Int.max_eq_left ("zl).ohTKV#%",q)];exact .head _
  .rcases aA.mp hc with rfl|hc
   .exact Int.le_max_left _ _
   .exact Int.le_trans (h2 c hc)<|Int.le_max_right _ _
def Nw(xs:List V)(k:V->Prop):Prop:=match xs with
 |[x]=>k x
 |_=>False
def QO(xs:List V)(k:V->V->Prop):Prop:=match xs with
 |[x,y]=>k x y
 |_=>False
def WD(Q:V->AH->Prop)(H:AH)(o:AO):Prop:=match o with
 |.list xs=>Q (.int xs.length) H
 |.tup xs=>Q (.int xs.length) H
 |.ba bs=>Q (.int bs.length) H
 |_=>False
def ZF(Q:V->AH->Prop)(H:AH)(x:V):Prop:=match x with
 |.ref a=>lW H a (WD Q H)
 |.bytes bs=>mh (bs.length<=16777216) (Q (.int bs.length) H)
 |_=>False
def WE(Q:V->AH->Prop)(H:AH)(o:AO):Prop:=match o with
 |.list xs=>pv xs λis=>Q (.int is.sum) H
 |_=>False
def WF(Q:V->AH->Prop)(H:AH)(o:AO):Prop:=match o with
 |.list xs=>pv xs λis=>mh (∀i∈is,0<=i/\i<256) (Q (.bytes (is.map λi=>i.toNat.toUInt8)) H)
 |.ba bs=>Q (.bytes bs) H
 |_=>False
def WG(Q:V->AH->Prop)(H:AH)(o:AO):Prop:=match o with
 |.list xs=>pv xs λis=>mh (is≠[]) (Q (.int (yJ is)) H)
 |_=>False
def QP(b:BI)(xs:List V)(H:AH)(Q:V->AH->Prop):Prop:=match b with
 |.len=>Nw xs (ZF Q H)
 |.sum=>Nw xs λx=>(match x with
  |.ref a=>lW H a (WE Q H)
  |_=>False)
 |.min=>QO xs λx y=>(match x with
  |.int a=>(match y with
   |.int b=>Q (.int (if b<a then b else a)) H
   |_=>False)
  |_=>False)
 |.max=>(match xs with
  |[x]=>(match x with
   |.ref a=>lW H a (WG Q H)
   |_=>False)
  |xs=>QO xs λx y=>(match x with
   |.int a=>(match y with
    |.int b=>Q (.int (if b>a then b else a)) H
    |_=>False)
   |_=>False))
 |.int=>Nw xs λx=>(match x with
  |.int a=>Q (.int a) H
  |.bool b=>Q (.int (if b then 1 else 0)) H
  |_=>False)
 |.bytes=>Nw xs λx=>(match x with
  |.ref a=>lW H a (WF Q H)
  |_=>False)
 |.Uf=>QO xs λx y=>(match x with
  |.bytes _=>(match y with
   |.tyB=>Q (.bool af) H
   |_=>False)
  |_=>False)
 |.list=>Nw xs λx=>(match x with
  |.bytes bs=>mh (bs.length<=16777216) (mC H (.list (bs.map λc=>.int (c.toNat:Nat))) Q)
  |_=>False)
theorem Nw.elim{xs:List V}{k:V->Prop}(h:Nw xs k):∃x,xs=[x]/\k x:=by
 cases xs with
 |nil=>exact a9 h
 |cons x r=>cases r with
  |nil=>exact⟨x,rfl,h⟩
  |cons _ _=>exact a9 h
theorem QO.elim{xs:List V}{k:V->V->Prop}(h:QO xs k):∃x y,xs=[x,y]/\k x y:=by
 cases xs with
 |nil=>exact a9 h
 |cons x r=>cases r with
  |nil=>exact a9 h
  |cons y r=>cases r with
   |nil=>exact⟨x,y,rfl,h⟩
   |cons _ _=>exact a9 h
theorem oB.ints:∀{is:List Int}{vs:List aZ},oB vs (is.map V.int)->IntsAre vs is
 |[],_,h=>by cases h;exact .nil
 |_::_,_,h=>by
  cases h with
  |cons a b=>obtain⟨t,rfl⟩:=a.int_inv;exact .cons _ _ (oB.ints b)
section
variable{n:Nat}{lJ:Env}{lK:Loc}{H:AH}{E:AH->Prop}{Q:V->AH->Prop}
inductive One(vs:List aZ)(x:V):Prop where
 |mk(v:aZ)(e:vs=[v])(h:VR v x)
inductive Two(vs:List aZ)(x y:V):Prop where
 |mk(v u:aZ)(e:vs=[v,u])(h:VR v x)(k:VR u y)
theorem oB.one{vs:List aZ}{x:V}(h:oB vs [x]):One vs x:=by
 cases h with
 |cons a b=>cases b;exact⟨_,rfl,a⟩
theorem oB.two{vs:List aZ}{x y:V}(h:oB vs [x,y]):Two vs x y:=by
 cases h with
 |cons a b=>obtain⟨u,rfl,c⟩:=b.one;exact⟨_,_,rfl,a,c⟩
theorem wb{h:bL}{a:bp}{vs:Array aZ}{k:Nat}(e:IsL h a vs k):h.IsList a vs.toList.toArray:=by rw[Array.toArray_toList];exact e.isList
theorem oB.of_get:∀{vs:List aZ}{xs:List V},vs.length=xs.length->(∀(i:Nat)(x:V)(v:aZ),xs[i]?=aq x->vs[i]?=aq v->VR v x)->oB vs xs
 |[],[],_,_=>.nil
 |v::vs,x::xs,e,h=>.cons (h 0 x v rfl rfl) (oB.of_get (by simpa using e) λi x v a b=>h (i+1) x v (by simpa using a) (by simpa using b))
 |[],_::_,e,_=>by simp at e
 |_::_,[],e,_=>by simp at e
theorem Ug{xs:List V}{vs:List aZ}(h:QP .len xs H Q)(hs:oB vs xs):Tr n lJ (call (BI.val .len) vs) lK H (VQ lK Q) E:=by
 obtain⟨x,rfl,h⟩:=Nw.elim h;cases x<;>try exact a9 h
 .obtain⟨v,rfl,hv⟩:=hs.one;obtain⟨c,t,rfl,rfl⟩:=hv.qN;obtain⟨l,h⟩:=gD h;rw[bf]at l;refine gz λS X A s ok st [oS:oz s]=>?_;exact KBw.len_K (b:=c) rfl (by rw[KBw.ints_length];exact("%&iLuaKHZgM2]V-)vjG|$#",l)) ⟨lK,H,st,rfl,_,.int ..,by rw[KBw.ints_length];rw[bf]at h;exact h⟩
 .obtain⟨v,rfl,hv⟩:=hs.one;obtain rfl:=hv.nF;obtain⟨o,ho,h⟩:=h;cases o<;>try exact a9 h
  .refine gz λS X A s ok st [oS:oz s]=>?_;obtain⟨ws,k,e,r,l⟩:=st.obj ho;have ll:=r.len;rw[bf]at ll;rw[mA]at l;exact call_len_list e.isList ("/;6z79+{*gdMa2YircyPo|t*ge5%#",l,ll) ⟨lK,H,st,rfl,_,by rw[ll];exact .int ..,h⟩
  .refine gz λS X A s ok st [oS:oz s]=>?_;obtain⟨ws,k,e,r,l⟩:=st.obj ho;have ll:=r.len;rw[bf]at ll;rw[mA]at l;exact len_tuple (Br e) ("/;6z79+{*gdMa2YircyPo|t*ge5%#",l,ll) ⟨lK,H,st,rfl,_,by rw[ll];exact .int ..,h⟩
  .rename_i bs;refine gz λS X A s ok st [oS:oz s]=>?_;let e:=(st.obj ho).1;let l:=(st.obj ho).2;refine Gv e (by rw[bX];exact l) λt k=>⟨lK,H,st,rfl,_,?_,h⟩;rw[bX];exact .int ..
theorem Uh{xs:List V}{vs:List aZ}(h:QP .sum xs H Q)(hs:oB vs xs):Tr n lJ (call (BI.val .sum) vs) lK H (VQ lK Q) E:=by
 obtain⟨x,rfl,h⟩:=Nw.elim h;cases x<;>try exact a9 h
 .obtain⟨v,rfl,hv⟩:=hs.one;obtain rfl:=hv.nF;obtain⟨o,ho,h⟩:=h;cases o<;>try exact a9 h
  .obtain⟨is,rfl,h'⟩:=pv.elim h;clear h;have h:=h';refine gz λS X A s ok st [oS:oz s]=>?_;obtain⟨ws,k,e,r,l⟩:=st.obj ho;let hi:=r.ints;obtain⟨zs,ez⟩:=hi.allInts.items;have Nx:is=zs.toList.map (·.1):=by rw[<-hi.numsOf,<-nums_intItems,<-ez]
   let e':=wb e;rw[ez]at e';refine sum_intListG ok.1.2.2.2 e' λh' tk t' hk=>⟨lK,H,st.keeps hk,rfl,_,.int _ t',?_⟩;rw[preSum_eq,List.take_of_length_le (by simp),<-Nx];exact h
theorem Ui{xs:List V}{vs:List aZ}(h:QP .min xs H Q)(hs:oB vs xs):Tr n lJ (call (BI.val .min) vs) lK H (VQ lK Q) E:=by
 obtain⟨x,y,rfl,h⟩:=QO.elim h;cases x<;>try exact a9 h
 cases y<;>try exact a9 h
 .obtain⟨v,u,rfl,hv,hu⟩:=hs.two;obtain⟨t,rfl⟩:=hv.int_inv;obtain⟨t',rfl⟩:=hu.int_inv;refine gz λS X A s ok st=>min_two_ints ok.1.2.2.2 λh' tk hk=>⟨lK,H,st.keeps hk,rfl,_,?_,h⟩;split<;>exact .int ..
theorem Ro{xs:List V}{vs:List aZ}(h:QP .max xs H Q)(hs:oB vs xs):Tr n lJ (call (BI.val .max) vs) lK H (VQ lK Q) E:=by
 cases xs with
 |nil=>exact a9 h
 |cons x r=>cases r with
  |nil=>
   cases x<;>try exact a9 h
   .obtain⟨v,rfl,hv⟩:=hs.one;obtain rfl:=hv.nF;obtain⟨o,ho,h⟩:=h;cases o<;>try exact a9 h
    .obtain⟨is,rfl,h'⟩:=pv.elim h;clear h;let h:=h';let ne:=(gD h).1;let h:=(gD h).2;refine gz λS X A s ok st [oS:oz s]=>?_;obtain⟨ws,k,e,r,l⟩:=st.obj ho;let hi:=r.ints;let IA:0<is.length:=List.length_pos_iff.mpr ne;obtain⟨zs,ez⟩:=hi.allInts.items;have Nx:is=zs.toList.map (·.1):=by rw[<-hi.numsOf,<-nums_intItems,<-ez]
     have hsz:0<zs.size:=by rw[Nx,cF,bf]at IA;exact IA
     let e':=wb e;rw[ez]at e';refine max_intList ok.1.2.2.2 e' hsz λv h' tk hv hk=>?_;obtain⟨t,rfl⟩:=intItems_at hv;refine⟨lK,H,st.keeps hk,rfl,_,.int _ t,?_⟩;let h1:=(argBest_gt (numAt zs)<|zs.size-1).1;let h2:=(argBest_gt (numAt zs)<|zs.size-1).2;let m1:=(yK ne).1;let m2:=(yK ne).2;let:numAt zs (argBest (λi j=>decide<|numAt zs i>numAt zs j)<|zs.size-1)=yJ is:=by
      apply Int.le_antisymm
      .apply m2;rw[Nx,numAt_eq];exact PySem.getD_mem (by rw[cF,bf];exact("?J=Zyd2i{R+$mqof=.&#",hsz,h1,rfl))
      .let m1':=m1;rw[Nx]at m1';obtain⟨j,hj,ej⟩:=PySem.mem_getD m1';rw[cF,bf]at hj;let:=h2 j ("TbQ7rl]W-D+ohWUi2&#",hj,rfl);rw[numAt_eq]at this;rw[<-Nx]at ej this;rw[<-ej];exact this
     rw[this];exact h
  |cons y r=>
   obtain⟨x,y,e,h⟩:=QO.elim h;rw[e]at hs;cases x<;>try exact a9 h
   cases y<;>try exact a9 h
   .obtain⟨v,u,rfl,hv,hu⟩:=hs.two;obtain⟨t,rfl⟩:=hv.int_inv;obtain⟨t',rfl⟩:=hu.int_inv;refine gz λS X A s ok st=>max_two_ints ok.1.2.2.2 λh' tk hk=>⟨lK,H,st.keeps hk,rfl,_,?_,h⟩;split<;>exact .int ..
theorem Uj{xs:List V}{vs:List aZ}(h:QP .int xs H Q)(hs:oB vs xs):Tr n lJ (call (BI.val .int) vs) lK H (VQ lK Q) E:=by
 obtain⟨x,rfl,h⟩:=Nw.elim h;cases x<;>try exact a9 h
 .obtain⟨v,rfl,hv⟩:=hs.one;obtain rfl:=hv.bool_inv;exact gz λS X A s ok st=>call_int_bool ⟨lK,H,st,rfl,_,.int ..,h⟩
 .obtain⟨v,rfl,hv⟩:=hs.one;obtain⟨t,rfl⟩:=hv.int_inv;exact gz λS X A s ok st=>call_int_int ⟨lK,H,st,rfl,_,.int ..,h⟩
theorem Op{xs:List V}{vs:List aZ}(h:QP .bytes xs H Q)(hs:oB vs xs):Tr n lJ (call (BI.val .bytes) vs) lK H (VQ lK Q) E:=by
 obtain⟨x,rfl,h⟩:=Nw.elim h;cases x<;>try exact a9 h
 .obtain⟨v,rfl,hv⟩:=hs.one;obtain rfl:=hv.nF;obtain⟨o,ho,h⟩:=h;cases o<;>try exact a9 h
  .obtain⟨is,rfl,h'⟩:=pv.elim h;clear h;have h:=h';let c:=(gD h).1;let h:=(gD h).2;refine gz λS X A s ok st [oS:oz s]=>?_;obtain⟨ws,k,e,r,l⟩:=st.obj ho;refine call_bytes_ints (wb e) r.ints c (by rw[r.len];exact l) ok.1.2.2.2 λh' t k hk=>⟨lK,H,st.keeps hk,rfl,_,.bytes _ _ _ ?_,h⟩;simp[byteArr]
  .refine gz λS X A s ok st [oS:oz s]=>?_;let e:=(st.obj ho).1;let l:=(st.obj ho).2;exact C6 e (by rw[bX];exact l) λt k=>⟨lK,H,st,rfl,_,.bytes _ _ _ (by simp),h⟩
theorem Uk{xs:List V}{vs:List aZ}(h:QP .Uf xs H Q)(hs:oB vs xs):Tr n lJ (call (BI.val .Uf) vs) lK H (VQ lK Q) E:=by
 obtain⟨x,y,rfl,h⟩:=QO.elim h;cases x<;>try exact a9 h
 cases y<;>try exact a9 h
 .obtain⟨v,u,rfl,hv,hu⟩:=hs.two;refine gu λP9 mG=>?_;obtain⟨c,t,rfl,rfl⟩:=hv.qN;refine mG ?_;obtain rfl:=hu.Q9;exact gz λS X A s ok st=>call_isinstance (isinstance_true (Tx:="bytes") F.isi_meta_bytes F.sub_bytes_bytes) ⟨dY _ _ _,lK,H,st,rfl,_,.bool _,h⟩
theorem Rp{xs:List V}{vs:List aZ}(h:QP .list xs H Q)(hs:oB vs xs):Tr n lJ (call (BI.val .list) vs) lK H (VQ lK Q) E:=by
 obtain⟨x,rfl,h⟩:=Nw.elim h;cases x<;>try exact a9 h
 .obtain⟨v,rfl,hv⟩:=hs.one;obtain⟨c,t,rfl,rfl⟩:=hv.qN;obtain⟨l,h⟩:=gD h;rw[bf]at l;refine gz λS X A s ok st [oS:oz s]=>?_;refine Ab ok.1.2.2.2 (by rw[mA];exact l) λh' tk Bz c' hk WC LK=>?_;refine⟨lK,upd H s.heap.objs.size<|.list (c.toList.map λd=>.int (d.toNat:Nat)),st.made (mL _) hk ⟨Bz,c',WC,?_,by rw[cF,bf,mA];exact l⟩,rfl,.ref _,.ref _,h.elim _<|st.qJ<|mL _⟩;refine oB.of_get (by rw[cF,bf,bf];exact LK.1) λi x v e1 e2=>?_;rw[dB]at e2;obtain⟨d,u,e3,rfl⟩:=LK.2 i v e2;rw[cj,dB,e3]at e1;simp only[fH,eJ]at e1;subst e1;exact .int ..
theorem WH{b:BI}{xs:List V}{vs:List aZ}(h:QP b xs H Q)(hs:oB vs xs):Tr n lJ (call b.val vs) lK H (VQ lK Q) E:=by
 cases b with
 |len=>exact Ug h hs
 |sum=>exact Uh h hs
 |min=>exact Ui h hs
 |max=>exact Ro h hs
 |int=>exact Uj h hs
 |bytes=>exact Op h hs
 |list=>exact Rp h hs
 |Uf=>exact Uk h hs
end
def Ul(n:Nat)(lJ:Env)(lK:Loc)(E:AH->Prop):List (Sem aZ)->AH->(List V->AH->Prop)->Prop
 |[],H,K=>K [] H
 |t::ts,H,K=>Tr n lJ t lK H (VQ lK λx H'=>Ul n lJ lK E ts H' λxs IB=>K (x::xs) IB) E
section
variable{n:Nat}{lJ:Env}{lK:Loc}{H:AH}{E:AH->Prop}{Q:V->AH->Prop}
theorem xl{ts:List (Sem aZ)}:∀{H:AH}{K:List V->AH->Prop},Ul n lJ lK E ts H K->Tr n lJ (spliced<|ts.map λt=>(ag,t)) lK H (λvs l H'=>l=lK/\∃xs,oB vs xs/\K xs H') E:=by
 induction ts with
 |nil=>intro H K h;exact gB ⟨rfl,[],.nil,h⟩
 |cons t ts ih=>
  intro H K h;rw[bS,spliced];refine gx<|gC h λv l H' jj=>?_;obtain⟨e,x,hv,q⟩:=jj;obtain rfl:=e.symm;refine gx<|gB ?_;refine gx<|gA<|gC (ih q) λvs l IB jj=>?_;obtain⟨e,xs,qG,q'⟩:=jj;exact gB ⟨e,x::xs,.cons hv qG,q'⟩
theorem vv{f:aZ}{ts:List (Sem aZ)}{K:List V->AH->Prop}(h:Ul n lJ lK E ts H K):Tr n lJ (evalArgs f af (ts.map λt=>(ag,t)) []) lK H (λa l H'=>l=lK/\a.kw=[]/\∃xs,oB a.pos xs/\K xs H') E:=by
 cases ts with
 |nil=>exact gz λS X A s ok st=>PySem.evalArgs_none ⟨lK,H,st,rfl,rfl,[],.nil,h⟩
 |cons t ts=>
  unfold evalArgs;rw[bS];refine gx<|gC (xl h) λvs l H' jj=>?_;refine gu λP9 mG=>?_;obtain⟨e,xs,qG,q⟩:=jj;refine mG ?_;subst e;refine gA ?_;exact gx<|gB<|gx<|gB<|gB ⟨rfl,rfl,xs,qG,q⟩
theorem oQ{f:aZ}{first:List aZ}{pos:Pos}{ts:List (Sem aZ)}{K:List V->AH->Prop}(hk:(∃id,f=.builtin id)∨(∃T,f=.type T)∨keepIn G.K f=af)(ha:Ul n lJ lK E ts H K)
  (h:∀xs vs H',oB vs xs->K xs H'->Tr n lJ (cq f<|first++vs) lK H' (VQ lK Q) E):Tr n lJ (callWith pos f first (ts.map λt=>(ag,t)) []) lK H (VQ lK Q) E:=by
 unfold callWith;refine gx<|gA<|gC (vv ha) λa l H'⟨e,WI,xs,qG,q⟩=>gx<|gy ?_;subst e;have Um:((ts.map λt=>(ag,t)).any (·.1)||([]:List<|Option Str×Sem aZ).any (·.1.isNone))=ag:=by simp
 have tail:∀{t:Sem aZ},Tr n lJ t l H' (VQ l Q) E->Tr n lJ (t>>=λr=>bV [r] PySem.point>>=λ_=>dD r) l H' (VQ l Q) E:=
  λht=>gx<|gC ht λr l' IB hr=>gx<|gA<|Tr.point<|gB hr
 have call:=h xs a.pos H' qG q;rw[WI];rw[Um];rcases hk with⟨id,rfl⟩|⟨T,rfl⟩|hk
 .refine gx (gB ?_);exact tail call
 .refine gx (gB ?_);exact tail call
 .intro S X A s ok st oS;obtain⟨k,LM,L⟩:=looks_keep (M:=G.M) hk<|st.r.b.g.KX.keeps st.r.b.base;refine mi<|gs<|L.here ?_;rcases LM with rfl|rfl
  .dsimp only;split
   .exact tail call S X A s ok st
   .refine tail (t:=callMarked _ _ _ _) (λS X A s ok st [oS:oz s]=>?_) S X A s ok st;unfold callMarked;exact NT<|call S X A s ok st
  .exact tail call S X A s ok st
end
section
variable{b:Prop}{prog:Program}{w:World}{A:Around}{C:bp}{R:Result->bh->Prop}{h:bL}{g:Array GenState}{d:Drawn}{t:Nat}{os:OsState}
theorem Un{lS:List aZ}{fI:bp}(Y:Makes (model prog w) h C)(hi:Looks (model prog w) h (typeLookup (.ref C) "__init__")<|aq<|.ref fI)
  (hb:∀self,Looks (model prog w) h (bindSpecial (.ref fI) self) (.ref fI,[self]))
  (hq:oP b (model prog w) (A.under<|.builtin "type.__call__" ⟨.ref C::lS,[]⟩) (.call (.ref fI) ⟨.ref (h.objs.size+1)::lS,[]⟩) (InitBack (h.objs.size+1) R) ⟨(h.push emptyDict).push (instObj C h.objs.size),g,d,t,os⟩):
  oP b (model prog w) A (.call (.ref C) ⟨lS,[]⟩) R ⟨h,g,d,t,os⟩:=by
 let Y':=Y;refine gu λP9 mG=>?_;obtain⟨⟨oc,od,cd,sl,hC,e1,e2,e4⟩,made,base,self,top,call,typ⟩:=Y;refine mG ?_;let Oq:∀l,sW (.builtin "type.__call__" l):=λl=>by show Builtin.Bytes.decodersThatHold.contains "type.__call__"=ag;decide+kernel
 refine oU<|gs ?_;refine nd_load hC ?_;show wpAny _ _ (callAny.viaDunder (.ref C) _) _ _ _;unfold callAny.viaDunder;refine aY<|call.at ?_;dsimp only;rw[tc_bind];refine aY<|bg<|aY<|bg ?_;refine bg (a:=Fin.again<|.call (.builtin "type.__call__") ⟨.ref C::lS,[]⟩) ⟨rfl,trivial,oU ?_⟩;refine mi (gs<|check_slot tc_kind tc_split typ (tc_args _ _ _)<|m9 ⟨Code.quiet_builtin _ (by decide+kernel),Oq _,rj entry_typeCall ?_⟩);unfold Builtin.«type.__call__»;let hm:Looks (model prog w) h (mroOf<|.ref C) cd.mro:=((Looks.ld (part:=aI) hC).andThen .now).andThen .now;dsimp only;rw[mT (by simp)];refine mi (m:=mroOf _)<|gs<|hm.at ?_;rw[mT (by rw[e4];decide)];refine mi (m:=Bind.madeBy _)<|gs<|made.at ?_;dsimp only;refine mi<|m9<|mi<|nN<|gs<|gm<|new_K Y' hi (.inl rfl) ?_;let k:∀b o,h.get? b=aq o->((h.push emptyDict).push (instObj C h.objs.size)).get? b=aq o:=λb o e=>bG _<|bG _ e;let hx:((h.push emptyDict).push (instObj C h.objs.size)).get? (h.objs.size+1)=aq (instObj C h.objs.size):=by heap_get
 let t1:Looks (model prog w) ((h.push emptyDict).push (instObj C h.objs.size)) (typeOf<|.ref (h.objs.size+1)) (.ref C):=(Looks.ld hx).andThen .now;let i1:Looks (model prog w) ((h.push emptyDict).push (instObj C h.objs.size)) (isInstance (.ref (h.objs.size+1))<|.ref C) af:=by unfold isInstance;exact t1.andThen<|self.keeps k
 refine mi (m:=isInstance _ _)<|gs<|i1.at ?_;rw[mT ("")];refine mi<|nN ?_;unfold callSpecial?;let i2:Looks (model prog w) ((h.push emptyDict).push (instObj C h.objs.size)) (specialOf (.ref (h.objs.size+1)) "__init__") (aq<|.ref fI):=by unfold specialOf;exact t1.andThen<|hi.keeps k
 refine mi (m:=specialOf _ _)<|gs<|i2.at ?_;refine nN<|mi (m:=bindSpecial _ _)<|gs<|((hb _).keeps k).at ?_;refine mi<|rS<|qe hq λr s' z=>?_;rcases r with e|(v|_|_|_)
 .exact z
 .exact z.elim
 .exact z.elim
 .exact z.elim
 .obtain⟨rfl,z⟩:=z;refine m9 ?_;dsimp only;rw[mT (by simp)];exact m9 z
end
theorem BA{n:Nat}{C fI:bp}{args:List V}{H:AH}{Q:V->AH->Prop}{E:AH->Prop}(hm:makesIn G.K C=af)(hi:findIn G.K (.ref C) "__init__"=aq (aq<|.ref fI))(hf:typeIn G.K (.ref fI)=aq (.type "function"))
  (h:∀dx x,H dx=aI->H x=aI->dx≠x->mH n (.ref fI) (.ref x::args) (upd (upd H dx<|.at []) x<|.inst C dx) (λr H'=>r=.none/\Q (.ref x) H') E):mH (n+1) (.ref C) args H Q E:=by
 intro S X A s vs ok r qG oS;obtain⟨hh,g,d,t,os⟩:=s;have KX:G.K.In hh:=r.b.g.KX.keeps r.b.base;let z1:=gw<|r.fresh<|mL hh;let r1:Rep S X (upd H hh.objs.size<|.at []) (hh.push emptyDict):=by let e0:(hh.push emptyDict).get? hh.objs.size=aq emptyDict:=bE _ rfl;exact r.alloc ⟨[],0,e0,.nil,aR _⟩
 let r2:Rep S X (upd (upd H hh.objs.size<|.at []) (hh.objs.size+1)<|.inst C hh.objs.size) ((hh.push emptyDict).push (instObj C hh.objs.size)):=by
  let:=r1.alloc (o:=instObj C hh.objs.size) (ao:=.inst C hh.objs.size)<|bE _ rfl
  rwa [fS]at this
 let D6:oz ⟨(hh.push emptyDict).push (instObj C hh.objs.size),g,d,t,os⟩:=⟨oS.sm⟩;refine Un (makes_of KX hm) (looks_findIn KX hi) (λself=>bind_fn KX self hf)<|qe (h hh.objs.size (hh.objs.size+1) z1.2.2.1 ?_ (fu<|dG _) S X _ ⟨(hh.push emptyDict).push (instObj C hh.objs.size),g,d,t,os⟩ (.ref (hh.objs.size+1)::vs) ?_ r2<|.cons (.ref _) qG) λres s' q=>?_
 .let:=gw (r1.fresh<|mL<|hh.push emptyDict);rw[fS]at this;let q:=this.2.2.1;rw[lV (dX<|dG _)]at q;exact q
 .let o1:=ok.1;let o2:=ok.2.1;let o3:=ok.2.2.1;let o4:=ok.2.2.2.1;let o5:=ok.2.2.2.2;refine⟨?_,o2,?_,?_,?_⟩
  .show A.units+1+100*n+320<=cLine;exact id<|LA.u270 0x52214012823207542401b6021401282421e40ea8036023 ("$") o1
  .show A.depth+(Code.builtin "type.__call__" ⟨.ref C::vs,[]⟩).weight+10*n+6<=recursionLimit;let:(Code.builtin "type.__call__" ⟨.ref C::vs,[]⟩).weight<=2:=by first|decide+kernel|exact dg _|(show 1<=2;decide)|(unfold Code.weight;simp[Code.isCreation,Code.isCaller,Code.isGuard,guardIds])
   exact("'>58A2/2(rFiI?W^6t[#o??N_;'#",o3,this)
  .exact o4
  .exact o5
 .rcases res with e|(v|_|_|_)
  .exact q
  .exact q.elim
  .exact q.elim
  .exact q.elim
  .refine gu λP9 mG=>?_;obtain⟨_,x,H',hv,r',rfl,q⟩:=q;refine mG ?_;exact⟨hv.none_inv,inferInstance,_,H',.ref _,r',q⟩
theorem VR.handed{v:aZ}{x:V}(h:VR v x):handedIn v=af:=by cases h<;>rfl
theorem S7(j k:Nat)(t:Tok):(gp (mV j) t).isStr (mV k)=aF k j:=by
 show(mV j==mV k)=_;by_cases e:j=k
 .subst e;simp
 .rw[show aF k j=ag from by rw[<-eV,fj];exact λq=>e q.symm];exact beq_eq_false_iff_ne.mpr λq=>e<|sE q
theorem Gw{ds:List DictEntry}{es:List (Nat×V)}(h:QM ds es):ds.any (·.refKey)=ag:=by
 induction h with
 |nil=>rfl
 |cons _ _ ih=>rw[dH,ih];rfl
theorem KF{ds:List DictEntry}{es:List (Nat×V)}(h:QM ds es)(k:Nat):match sX k es with|some x=>∃v,PySem.W.getL (mV k) ds=aq (aq v)/\VR v x|none=>PySem.W.getL (mV k) ds=aq aI:=by
 let nr:=Gw h;unfold PySem.W.getL;rw[nr];clear nr
 induction h with
 |nil=>simp[sX]
 |@cons hs j t v x r r' hv _ ih=>
  unfold sX;rw[fG,S7];cases aF k j with
  |true=>exact⟨v,rfl,hv⟩
  |false=>exact ih
theorem Uo{ds:List DictEntry}{es:List (Nat×V)}(h:QM ds es)(k:Nat)(hs:Int)(t:Tok){v:aZ}{x:V}(hv:VR v x):QM (putL (mV k) hs (.str (mV k) t) v ds) (Gg k x es):=by
 induction h with
 |nil=>exact .cons hv .nil
 |@cons hs j t v x r r' hu hr ih=>
  unfold putL Gg;rw[S7];cases aF k j with
  |true=>exact .cons hv hr
  |false=>exact .cons hu ih
theorem Gx(k:Nat)(v:V):∀es:List (Nat×V),(Gg k v es).length<=es.length+1
 |[]=>by simp[Gg]
 |(j,u)::r=>by
  unfold Gg;cases aF k j with
  |true=>simp
  |false=>have:=Gx k v r;simp only[cond_false,bO];exact("$|_$;bt0L5`$*'y%%#",this)
theorem QM.len{ds:List DictEntry}{es:List (Nat×V)}(h:QM ds es):ds.length=es.length:=by
 induction h with
 |nil=>rfl
 |cons _ _ ih=>rw[bO,bO,ih]
def KG(C:bp)(k:Nat):Prop:=plainGet G.K C (mV k)=af/\hasDictIn G.K C=af/\findIn G.K (.ref C) (mV k)=aq aI/\plainOver G.K C=af/\takerIn G.K C (mV k)=aq aI/\
 findIn G.K (.ref C) "__setattr__"=aq (aq<|.builtin "object.__setattr__")
def Os(C:bp)(k:Nat)(f:bp):Prop:=plainGet G.K C (mV k)=af/\findIn G.K (.ref C) (mV k)=aq (aq<|.ref f)/\isFn G.K (.ref f)=af/\keepIn G.K (.ref f)=af
def uu(P:bp->Prop)(x:V):Prop:=match x with
 |.ref a=>P a
 |_=>False
theorem uu.elim{P:bp->Prop}{x:V}(h:uu P x):∃a,x=.ref a/\P a:=by cases x<;>first|exact a9 h|exact⟨_,rfl,h⟩
def rJ(P:Int->Prop)(x:V):Prop:=match x with
 |.int a=>P a
 |_=>False
theorem rJ.elim{P:Int->Prop}{x:V}(h:rJ P x):∃a,x=.int a/\P a:=by cases x<;>first|exact a9 h|exact⟨_,rfl,h⟩
def wV(P:List V->Prop)(o:AO):Prop:=match o with
 |.list a=>P a
 |_=>False
theorem wV.elim{P:List V->Prop}{x:AO}(h:wV P x):∃a,x=.list a/\P a:=by cases x<;>first|exact a9 h|exact⟨_,rfl,h⟩
def KH(P:List V->Prop)(o:AO):Prop:=match o with
 |.tup a=>P a
 |_=>False
theorem KH.elim{P:List V->Prop}{x:AO}(h:KH P x):∃a,x=.tup a/\P a:=by cases x<;>first|exact a9 h|exact⟨_,rfl,h⟩
def Rq(P:Prop)(k:bu):Prop:=match k with
 |.globalImplicit=>P
 |_=>False
theorem Rq.elim{P:Prop}{k:bu}(h:Rq P k):k=.globalImplicit/\P:=by cases k<;>first|exact a9 h|exact⟨rfl,h⟩
def BB(o:Option<|Nat×bu)(P:Nat->Prop):Prop:=match o with
 |some p=>Rq (P p.1) p.2
 |none=>False
theorem BB.elim{P:Nat->Prop}{o:Option (Nat×bu)}(h:BB o P):∃k,o=aq (k,.globalImplicit)/\P k:=by
 cases o with
 |none=>exact a9 h
 |some p=>
  obtain⟨k,q⟩:=p;obtain⟨rfl,h⟩:=Rq.elim h;exact⟨_,rfl,h⟩
def VV(o:Option bp)(P:bp->Prop):Prop:=match o with
 |some p=>P p
 |none=>False
theorem VV.elim{P:bp->Prop}{o:Option bp}(h:VV o P):∃k,o=aq k/\P k:=by
 cases o with
 |none=>exact a9 h
 |some p=>exact⟨_,rfl,h⟩
def IC(b:Bool)(p:Prop):Prop:=match b with
 |true=>p
 |false=>False
theorem IC.elim{b:Bool}{p:Prop}(h:IC b p):b=af/\p:=by
 cases b
 .exact a9 h
 .exact⟨rfl,h⟩
def FZ(k:Nat)(o:Option<|Nat×bu)(P:Prop):Prop:=BB o λw=>IC (aF w k) P
theorem FZ.elim{k:Nat}{o:Option (Nat×bu)}{P:Prop}(h:FZ k o P):o=aq (k,.globalImplicit)/\P:=by obtain⟨w,e0,h1⟩:=BB.elim h;let e:=(IC.elim h1).1;let h2:=(IC.elim h1).2;rw[bJ e]at e0;exact⟨e0,h2⟩
def VW(o:Option V)(Q:V->AH->Prop)(H:AH):Prop:=match o with
 |some v=>Q v H
 |none=>False
theorem VW.elim{o:Option V}{Q:V->AH->Prop}{H:AH}(h:VW o Q H):∃v,o=aq v/\Q v H:=by
 cases o with
 |none=>exact a9 h
 |some v=>exact⟨v,rfl,h⟩
def WJ(Q:V->AH->Prop)(H:AH)(k:Nat)(o:AO):Prop:=match o with
 |.at es=>VW (sX k es) Q H
 |_=>False
def WK(Q:V->AH->Prop)(H:AH)(k:Nat)(o:AO):Prop:=match o with
 |.inst _ d=>lW H d (WJ Q H k)
 |_=>False
def ZG(x:V)(k:Nat)(H:AH)(Q:V->AH->Prop):Prop:=match x with
 |.ref a=>lW H a (WK Q H k)
 |_=>False
def S8(H:AH)(x:V)(C:bp):Prop:=∃a d,x=.ref a/\H a=aq (.inst C d)
def WL(H:AH)(K:AH->Prop)(k:Nat)(v:V)(d:bp)(o:AO):Prop:=match o with
 |.at es=>mh (es.length<900) (K<|upd H d<|.at (Gg k v es))
 |_=>False
def WM(H:AH)(K:AH->Prop)(k:Nat)(v:V)(o:AO):Prop:=match o with
 |.inst _ d=>lW H d (WL H K k v d)
 |_=>False
def ZH(x:V)(k:Nat)(v:V)(H:AH)(K:AH->Prop):Prop:=match x with
 |.ref a=>lW H a (WM H K k v)
 |_=>False
section
variable{n:Nat}{lJ:Env}{lK:Loc}{H:AH}{E:AH->Prop}{Q:V->AH->Prop}{K:AH->Prop}
theorem Up{x:V}{k:Nat}{v:aZ}{expr:Bool}(h:ZG x k H Q)(hv:VR v x)(hC:∀C,S8 H x C->KG C k):Tr n lJ (getAttr v (mV k) expr) lK H (VQ lK Q) E:=by
 cases x<;>try exact a9 h
 .rename_i a;obtain rfl:=hv.nF;obtain⟨o,ho,h⟩:=h;cases o<;>try exact a9 h
  .rename_i C d;obtain⟨o',Bp,h⟩:=h;cases o'<;>try exact a9 h
   .rename_i es;obtain⟨y,hy,h⟩:=VW.elim h
    .skip
     let f1:=(hC C ⟨a,d,rfl,ho⟩).1;let f2:=(hC C ⟨a,d,rfl,ho⟩).2.1;let f3:=(hC C ⟨a,d,rfl,ho⟩).2.2.1;let f4:=(hC C ⟨a,d,rfl,ho⟩).2.2.2.1;let f5:=(hC C ⟨a,d,rfl,ho⟩).2.2.2.2.1;let f6:=(hC C ⟨a,d,rfl,ho⟩).2.2.2.2.2;refine gz λS X A s ok st [oS:oz s]=>?_;obtain⟨ds,m,e,r,_⟩:=st.obj Bp;let q:=KF r k;rw[hy]at q;obtain⟨u,q1,q2⟩:=q;exact get_value (st.r.b.g.KX.keeps st.r.b.base) (I:=⟨st.obj ho,rfl,rfl,e⟩) (ga f1).1 (findObj_own f2 f3 rfl<|(lookIn_dict _ _ _).trans q1) q2.handed ⟨lK,H,st,rfl,y,q2,h⟩
theorem Uq{x y:V}{k:Nat}{v u:aZ}(h:ZH x k y H K)(hv:VR v x)(hu:VR u y)(hC:∀C,S8 H x C->KG C k):Tr n lJ (setAttr v (mV k) u) lK H (UQ lK K) E:=by
 cases x<;>try exact a9 h
 .rename_i a;obtain rfl:=hv.nF;obtain⟨o,ho,h⟩:=h;cases o<;>try exact a9 h
  .rename_i C d;obtain⟨o',Bp,h⟩:=h;cases o'<;>try exact a9 h
   .rename_i es;obtain⟨lt,h⟩:=gD h;let f1:=(hC C ⟨a,d,rfl,ho⟩).1;let f2:=(hC C ⟨a,d,rfl,ho⟩).2.1;let f3:=(hC C ⟨a,d,rfl,ho⟩).2.2.1;let f4:=(hC C ⟨a,d,rfl,ho⟩).2.2.2.1;let f5:=(hC C ⟨a,d,rfl,ho⟩).2.2.2.2.1;let f6:=(hC C ⟨a,d,rfl,ho⟩).2.2.2.2.2;refine gz λS X A s ok st [oS:oz s]=>?_;obtain⟨ds,m,e,r,_⟩:=st.obj Bp;have KX:G.K.In s.heap:=st.r.b.g.KX.keeps st.r.b.base;let I:InstAt s.heap a (instObj C d) C (aq<|dictOf ds m):=⟨st.obj ho,rfl,rfl,e⟩;refine set_plain KX I f6<|osa_open (s:={s with toks:=s.toks+1}) KX I f4 f5 λ_=>?_;obtain⟨cd,hc,WN⟩:=any_some f2;refine aY<|bg<|aY<|aY<|eA (st.obj ho)<|aY<|looks_clsIn KX hc _ _ _ _ (λ_ _ e=>e) ?_;rw[WN];refine bg (a:=aq d)<|aY<|bg<|aY ?_;unfold nsSet;refine aY<|aY<|wpAny_askSetting<|bg<|aY<|fV<|aY<|eA e ?_;dsimp only;have c:(!ds.toArray.any (·.key.isStr (mV k))&&ds.toArray.any (·.refKey))=ag:=by
     rw[<-eU,<-eU,show ds.toArray.toList=ds from rfl,Gw r,gj]
    rw[aRefKeyMayBeTheName_at,c];refine wpAny_updatePart e ?_;have hp:=putName_dict (mV k) (dq G.M.w.params<|mV k) (.str (mV k) (s.toks+1)) u ds m;have e':(s.heap.update d<|Obj.putName (mV k) (dq G.M.w.params<|mV k) (.str (mV k) (s.toks+1)) u).get? d=aq (dictOf (putL (mV k) (dq G.M.w.params<|mV k) (.str (mV k) (s.toks+1)) u ds)<|putN (mV k) ds m):=by rw[<-hp];exact cB _ e (by rw[hp];rfl)
    have r':=Uo r k (dq G.M.w.params<|mV k) (s.toks+1) hu;have l1:=Gx k y es;have l2:=r'.len;refine aY (fZ e' (pastItsLine_dict (by rw[bX,mA];exact("/3e&Ggn)Qd#/KpP%Q2uSQ2V<,&#",lt,l1,l2))) ?_);exact bg ⟨lK,upd H d<|.at (Gg k y es),st.change Bp rfl (cM ..) ⟨_,_,e',r',("%(ypYg4+CoCrB/1t,/%#",lt,l1)⟩,rfl,h⟩
theorem Ur{a C d:bp}{k:Nat}{f:bp}{pl:Sem Bool}(ho:H a=aq (.inst C d)){es:List (Nat×V)}(Bp:H d=aq (.at es))(hn:sX k es=aI)(hM:Os C k f){P:aZ×List aZ->Loc->AH->Prop}(h:P (.ref f,[.ref a]) lK H):
  Tr n lJ (getMethod (.ref a) (mV k) pl) lK H P E:=by
 let f1:=hM.1;let f2:=hM.2.1;let f3:=hM.2.2.1;let f4:=hM.2.2.2;refine gz λS X A s ok st [oS:oz s]=>?_;obtain⟨ds,m,e,r,_⟩:=st.obj Bp;let q:=KF r k;rw[hn]at q;let I:InstAt s.heap a (instObj C d) C (aq<|dictOf ds m):=⟨st.obj ho,rfl,rfl,e⟩;exact method_fn (st.r.b.g.KX.keeps st.r.b.base) I (ga f1).1 (ga f1).2 f2 (beq_iff_eq.mp f3) (by show(lookIn (mV k)<|dictOf ds m).map _=_;rw[lookIn_dict,q];rfl) ⟨lK,H,st,h⟩
end
open Mine.rJ renaming elim→gE
theorem ID:(NM.all λx=>bC x !=("__debug__":Str))=af:=by decide+kernel
theorem IE(k:Nat):(F9 k==("__debug__":Str))=ag:=by
 unfold F9;cases h:NM[k]? with
 |none=>
  refine beq_eq_false_iff_ne.mpr λe=>?_;let:=congrArg (λs:Str=>s.cps[0]?) e;simp at this;revert this;decide+kernel
 |some x=>
  let:=bT.mp ID x<|bR h;simpa using this
theorem qO(k:Nat):(mV k==("__debug__":Str))=ag:=by
 unfold mV;cases aF k 500 with
 |true=>show(bC ".0"==bC "__debug__")=ag;decide+kernel
 |false=>exact IE k
structure Cx where
 nw:List (Nat×bu)
 n:Nat
 gv:Nat->Option V
 gf:Nat->Option bp
 fld:bp->Nat->Bool
 QQ:bp->Nat->Option bp
def qj(nw:List<|Nat×bu):List (Str×bu):=nw.map λp=>(mV p.1,p.2)
structure qK(X:Cx):Prop where
 nd:(X.nw.map (·.1)).Nodup
 gv:∀k v,X.gv k=aq v->∃cv,nsIn G.K mainGlobals (mV k)=aq (aq cv)/\VR cv v
 gf:∀k a,X.gf k=aq a->nsIn G.K mainGlobals (mV k)=aq (aq<|.ref a)/\keepIn G.K (.ref a)=af
 fld:∀C k,X.fld C k=af->KG C k
 QQ:∀C k f,X.QQ C k=aq f->Os C k f
 bi:∀k,k∈[11,13,15,16,22,36,58,69,83,116,119,131]->nsIn G.K mainGlobals (mV k)=aq aI
def oW(X:Cx)(lJ:Env):Prop:=lJ.scope.names=qj X.nw
theorem nX{nw:List (Nat×bu)}{i k:Nat}{kd:bu}(h:nw[i]?=aq (k,kd)):(qj nw)[i]?=aq (mV k,kd):=by unfold qj;refine bF cj▸?_;rw[h];rfl
theorem rk{nw:List (Nat×bu)}(h:(nw.map (·.1)).Nodup):((qj nw).map (·.1)).Nodup:=by
 unfold qj;rw[cO];let:(λx:Str×bu=>x.1)∘(λp:Nat×bu=>(mV p.1,p.2))=mV∘(·.1):=rfl;rw[this];refine cO▸?_;generalize nw.map (·.1)=l at h
 induction h with
 |nil=>exact .nil
 |@cons a l ha _ ih=>
  rw[bS];refine fE.mpr ⟨λm=>?_,ih⟩;obtain⟨b,hb,e⟩:=ef.mp m;exact ha b hb (sE e).symm
def BQ(lK:Loc)(T:Bool->AH->Prop):Bool->Loc->AH->Prop:=λb l H=>l=lK/\T b H
def kE:Expr->Nat
 |.Starred ..=>0
 |.Set ..=>0
 |.Slice ..=>0
 |.Call ..=>2
 |.ListComp ..=>3
 |.SetComp ..=>0
 |.DictComp ..=>0
 |.Tuple ..=>4
 |.List ..=>4
 |.Name ..=>5
 |_=>1
theorem y:af=af:=rfl
structure ExP(e:Expr):Prop where
 st:∀lJ r,starEach (e::r) lJ=(ag,eval e lJ)::starEach r lJ
 as:∀lJ r,assignEach (e::r) lJ=(ag,assign e lJ)::assignEach r lJ
 ma:∀op t,markedBehindIn op e t=t
 fo:∀lJ x,foldedSetIterable e lJ x=pure x
 au:∀ov iv new,augStore e ov iv new=(do bV [new,ov,iv] (setItem ov iv new);release [new,ov,iv] [];dD Flow.next)
theorem Ny{e:Expr}(h:aJ 0 (kE e)=af):ExP e:=by cases e<;>first|exact(cA h).elim|exact⟨λ_ _=>rfl,λ_ _=>rfl,λ_ _=>rfl,λ_ _=>rfl,λ_ _ _=>rfl⟩
theorem Ot{e:Expr}(h:(!aF (kE e) 2)=af)(k:Str)(lJ:Env)(t:Sem aZ):attributeBase e k lJ t=t:=by cases e<;>first|rfl|exact(cA h).elim
theorem ZI{e:Expr}(h:(aJ 0 (kE e)&&!aF (kE e) 3)=af)(t:Option Expr)(l:Nat)(lJ:Env):swapsWith e t l lJ=pure ag:=by cases e<;>first|rfl|exact(cA h).elim
def YA(e:Expr):Bool:=aF (kE e) 5
theorem swT{t a:Expr}{g:List Comprehension}{s:Scope}{p:Pos}(h:(!YA t)=af)(l:Nat)(lJ:Env):swapsWith (.ListComp a g s p) (aq t) l lJ=pure ag:=by cases t<;>first|rfl|exact(cA h).elim
theorem ZJ{t e:Expr}(h:(aJ 0 (kE e)&&!(aF (kE e) 3&&YA t))=af)(l:Nat)(lJ:Env):swapsWithSole [t] e l lJ=pure ag:=by cases e<;>first|rfl|exact swT h l lJ|exact(cA h).elim
theorem ZK{t e:Expr}(h:(!(aF (kE t) 4&&aF (kE e) 4))=af)(lJ:Env):swappedStores [t] e lJ=pure aI:=by cases t<;>first|rfl|(cases e<;>first|rfl|exact(cA h).elim)
structure SE(X:Cx)where
 ex:Expr
 ev:Loc->AH->(AH->Prop)->(V->AH->Prop)->Prop
 tv:Loc->AH->(AH->Prop)->(Bool->AH->Prop)->Prop
 ok:∀lJ lK H E Q,qK X->oW X lJ->ev lK H E Q->Tr X.n lJ (eval ex lJ) lK H (VQ lK Q) E
 tok:∀lJ lK H E T,qK X->oW X lJ->tv lK H E T->Tr X.n lJ (isTrue ex lJ<|eval ex lJ) lK H (BQ lK T) E
structure oa(X:Cx)where
 qx:List Expr
 ev:Loc->AH->(AH->Prop)->(List V->AH->Prop)->Prop
 ok:∀lJ lK H E K,qK X->oW X lJ->ev lK H E K->Ul X.n lJ lK E (evalEach qx lJ) H K
 plain:∀lJ,starEach qx lJ=(evalEach qx lJ).map λt=>(ag,t)
 tests:Loc->AH->(AH->Prop)->BoolOp->(Bool->AH->Prop)->Prop
 tok:∀lJ lK H E op T,qK X->oW X lJ->tests lK H E op T->Tr X.n lJ (allTrue op qx lJ) lK H (BQ lK T) E
def IF(Q:Bool->AH->Prop)(v:V)(H:AH):Prop:=match v with
 |.bool b=>Q b H
 |_=>False
section
variable{n:Nat}{lJ:Env}{lK:Loc}{H:AH}{E:AH->Prop}{Q:V->AH->Prop}{T:Bool->AH->Prop}
theorem yL{v:aZ}{x:V}(h:IF T x H)(hv:VR v x):Tr n lJ (truthy v) lK H (BQ lK T) E:=by
 cases x with
 |bool b=>
  obtain rfl:=hv.bool_inv;exact gB ⟨rfl,h⟩
 |_=>exact a9 h
theorem Tr.nK{α:Type}{m:Sem aZ}{f:aZ->Sem α}{P:α->Loc->AH->Prop}(h:Tr n lJ m lK H (VQ lK Q) E)(k:∀v x H',VR v x->Q x H'->Tr n lJ (f v) lK H' P E):Tr n lJ (m>>=f) lK H P E:=
 gx (gC h λv l H'⟨e,x,hv,q⟩=>by subst e;exact k v x H' hv q)
theorem Tr.bindB{α:Type}{m:Sem Bool}{f:Bool->Sem α}{P:α->Loc->AH->Prop}(h:Tr n lJ m lK H (BQ lK T) E)(k:∀b H',T b H'->Tr n lJ (f b) lK H' P E):Tr n lJ (m>>=f) lK H P E:=
 gx (gC h λb l H'⟨e,q⟩=>by subst e;exact k b H' q)
theorem Tr.operate{vs:List aZ}{m:Sem aZ}{P:aZ->Loc->AH->Prop}(h:Tr n lJ m lK H P E):Tr n lJ (PySem.operate vs m) lK H P E:=λS X A s ok st=>Gc<|h S X A s ok st
theorem Tr.Ou{base:Expr}{o r:aZ}{P:Unit->Loc->AH->Prop}(h:P () lK H):Tr n lJ (letTemporaryGo base o r) lK H P E:=gz λS X A s ok st=>wpAny_letTemporaryGo ⟨lK,H,st,h⟩
end
def SE.plain{X:Cx}(ex:Expr)(ev:Loc->AH->(AH->Prop)->(V->AH->Prop)->Prop)
  (ok:∀lJ lK H E Q,qK X->oW X lJ->ev lK H E Q->Tr X.n lJ (eval ex lJ) lK H (VQ lK Q) E)(ht:∀lJ t,isTrue ex lJ t=(do let v<-t;standAt ex.pos;holding [v] (truthy v))):SE X where
 ex:=ex
 ev:=ev
 tv:=λlK H E T=>ev lK H E<|IF T
 ok:=ok
 tok:=λlJ lK H E T c e h=>by rw[ht];exact Tr.nK (ok lJ lK H E _ c e h) λv x H' hv q=>gx<|gy<|gA<|yL q hv
section
variable{X:Cx}
def SE.cn(p:Pos):SE X:=.plain (.Constant .none 0 p) (λ_ H _ Q=>Q .none H) (λlJ lK H E Q _ _ h=>gB ⟨rfl,_,.none,h⟩) λ_ _=>rfl
def SE.cb(b:Bool)(p:Pos):SE X:=.plain (.Constant (.bool b) 0 p) (λ_ H _ Q=>Q (.bool b) H) (λlJ lK H E Q _ _ h=>gB ⟨rfl,_,.bool b,h⟩) λ_ _=>rfl
def SE.ci(i:Int)(p:Pos):SE X:=.plain (.Constant (.int i) 0 p) (λ_ H _ Q=>Q (.int i) H) (λlJ lK H E Q _ _ h=>gz λS X A s ok st=>wpAny_mkInt ⟨lK,H,st,rfl,_,.int ..,h⟩) λ_ _=>rfl
def SE.cs(k:Nat)(p:Pos):SE X:=.plain (.Constant (.str (mV k)) 0 p) (λ_ H _ Q=>Q (.nm k) H) (λlJ lK H E Q _ _ h=>gz λS X A s ok st=>fV ⟨lK,H,st,rfl,_,.nm ..,h⟩) λ_ _=>rfl
def SE.lo(i:Nat)(p:Pos):SE X:=.plain (.Name (mV (X.nw.getD i (0,.free)).1) p)
 (λlK H _ Q=>match getL lK i with
  |some v=>Q v H
  |none=>False)
 (λlJ lK H E Q c e h=>by
  cases q:getL lK i with
  |none=>have h:=q▸h;exact h.elim
  |some v=>
   have h:=q▸h;refine gz λS X' A s ok st=>wpAny_Name ?_ (qO _);obtain⟨m,hm,r⟩:=st.e.ns;obtain⟨x,k,e1,e2⟩:=r i v q;have IG:=e1;have IG:=e▸IG;unfold qj at IG;have IG:=cj▸IG;obtain⟨⟨w,kd⟩,e3,e4⟩:=ah.mp IG;obtain⟨e5,e6⟩:=eL e4;have ew:mV (X.nw.getD i (0,.free)).1=x:=by refine bF bq▸?_;rw[e3];exact e5
   rw[ew];have lx:=mM st.e.nd e1;cases k with
   |«local»=>obtain⟨cv,h1,h2⟩:=e2;exact wpAny_loadName_local st.e.kind lx hm h1 ⟨lK,H,st,rfl,v,h2,h⟩
   |cell=>obtain⟨cc,cv,h1,h2,h3⟩:=e2;exact wpAny_loadName_cell st.e.kind lx h1 h2 ⟨lK,H,st,rfl,v,h3,h⟩
   |_=>exact e2.elim) λ_ _=>rfl
theorem Rr{lJ:Env}{lK:Loc}{H:AH}{E:AH->Prop}{Q:V->AH->Prop}{i k:Nat}{v:V}{p:Pos}(c:qK X)(e:oW X lJ)(hi:X.nw[i]?=aq (k,.globalImplicit))(hv:X.gv k=aq v)(h:Q v H):
  Tr X.n lJ (eval (.Name (mV k) p) lJ) lK H (VQ lK Q) E:=by
 obtain⟨cv,g1,g2⟩:=c.gv k v hv;refine gz λS X' A s ok st [oS:oz s]=>?_;let lx:lJ.kindOf (mV k)=aq .globalImplicit:=mM st.e.nd (by rw[e];exact nX hi);let Tg:=st.r.b.g.T.g.keeps st.r.b.base;exact cJ st.e.kind lx (fW (by rw[st.e.Rc];exact Tg) (mg_of st.r.b.g.KX st.r.b.g.T.g g1) ⟨lK,H,st,rfl,v,g2,h⟩)<|qO k
def SE.gl(i:Nat)(p:Pos):SE X:=.plain (.Name (mV (X.nw.getD i (0,.free)).1) p)
 (λ_ H _ Q=>BB X.nw[i]? λk=>VW (X.gv k) Q H)
 (λlJ lK H E Q c e h=>by
  obtain⟨k,hk,h⟩:=BB.elim h;obtain⟨v,hv,h⟩:=VW.elim h;have ew:(X.nw.getD i (0,.free)).1=k:=by refine bF bq▸?_;rw[hk];rfl
  rw[ew];exact Rr c e hk hv h) λ_ _=>rfl
end
open Mine.Tr renaming nK→gF,operate→gG,bindB→gH
def WO(Q:V->AH->Prop)(x:V)(H:AH):Prop:=match x with
 |.int a=>Q (.int (-a)) H
 |_=>False
theorem Us{n:Nat}{lJ:Env}{lK:Loc}{H:AH}{E:AH->Prop}{Q:V->AH->Prop}{x:V}{v:aZ}(h:WO Q x H)(hv:VR v x):Tr n lJ (unaryOp .USub v) lK H (VQ lK Q) E:=by
 cases x<;>try exact a9 h
 .obtain⟨t,rfl⟩:=hv.int_inv;exact Tr.tok (λA s Q' E' k=>P.neg_int<|k _ _<|.int ..) h
section
variable{n:Nat}{lJ:Env}{lK:Loc}{H:AH}{E:AH->Prop}{α β γ:Type}{P:β->Loc->AH->Prop}
theorem Tr.yM{vs:List aZ}{m:Sem α}{f:α->Sem β}(h:Tr n lJ (m>>=f) lK H P E):Tr n lJ (bV vs m>>=f) lK H P E:=λS X A s ok st oS Γ p i cl=>by let:=h S X A s ok st Γ p i cl;rw[bP]at this⊢;rw[fP];exact this
theorem Tr.assoc{m:Sem α}{g:α->Sem γ}{f:γ->Sem β}(h:Tr n lJ (m>>=λa=>g a>>=f) lK H P E):Tr n lJ ((m>>=g)>>=f) lK H P E:=λS X A s ok st oS Γ p i cl=>by let:=h S X A s ok st Γ p i cl;rw[bP]at this⊢;rw[bP];refine cH _ Γ _ (λa p' s' q=>?_) (λ_ _ _ q=>q) p s this;rw[bP]at q;exact q
end
section
variable{X:Cx}
def SE.ng(e:SE X)(p:Pos):SE X:=.plain (.UnaryOp .USub e.ex p) (λlK H E Q=>e.ev lK H E<|WO Q)
 (λlJ lK H E Q c o h=>by rw[arm_eval_UnaryOp];exact gF (e.ok lJ lK H E _ c o h) λv x H' hv q=>gx<|gy<|gA<|Us q hv) λ_ _=>rfl
def ntV(Q:V->AH->Prop)(b:Bool)(H:AH):Prop:=Q (.bool (!b)) H
def ntK(T:Bool->AH->Prop)(b:Bool)(H:AH):Prop:=T (!b) H
def boK(lK:Loc)(E:AH->Prop)(op:Operator)(r:SE X)(Q:V->AH->Prop)(x:V)(H:AH):Prop:=r.ev lK H E<|EP op x Q
def cmK(lK:Loc)(E:AH->Prop)(op:CmpOp)(r:SE X)(Q:V->AH->Prop)(x:V)(H:AH):Prop:=r.ev lK H E<|Ww op x Q
def suK(lK:Loc)(E:AH->Prop)(i:SE X)(Q:V->AH->Prop)(x:V)(H:AH):Prop:=i.ev lK H E<|aSub x Q
def ieK(lK:Loc)(E:AH->Prop)(a b:SE X)(Q:V->AH->Prop)(t:Bool)(H:AH):Prop:=mO t (a.ev lK H E Q)<|b.ev lK H E Q
def csJ(x:V)(K:List V->AH->Prop)(xs:List V)(H:AH):Prop:=K (x::xs) H
def csK(lK:Loc)(E:AH->Prop)(es:oa X)(K:List V->AH->Prop)(x:V)(H:AH):Prop:=es.ev lK H E<|csJ x K
def tsK(lK:Loc)(E:AH->Prop)(es:oa X)(op:BoolOp)(T:Bool->AH->Prop)(b:Bool)(H:AH):Prop:=match op with
  |.And=>mO b (es.tests lK H E .And T) (T ag H)
  |.Or=>mO b (T af H)<|es.tests lK H E .Or T
def b2K(op:BoolOp)(b:SE X)(lK:Loc)(E:AH->Prop)(Q:V->AH->Prop)(t:Bool)(H:AH):Prop:=match op with
  |.And=>mO t (b.ev lK H E Q) (Q (.bool ag) H)
  |.Or=>mO t (Q (.bool af) H)<|b.ev lK H E Q
def tpK(Q:V->AH->Prop)(xs:List V)(H:AH):Prop:=mh (xs.length<=1000)<|mC H (.tup xs) Q
def lsK(Q:V->AH->Prop)(xs:List V)(H:AH):Prop:=mh (xs.length<=1000)<|mC H (.list xs) Q
def ZL(X:Cx)(Q:V->AH->Prop)(H:AH)(k:Nat)(o:AO):Prop:=match o with
 |.inst C d=>IC (X.fld C k) (lW H d<|WJ Q H k)
 |_=>False
def ZM(X:Cx)(k:Nat)(Q:V->AH->Prop)(x:V)(H:AH):Prop:=match x with
 |.ref a=>lW H a (ZL X Q H k)
 |_=>False
theorem F8{X:Cx}{lJ:Env}{lK:Loc}{H:AH}{E:AH->Prop}{Q:V->AH->Prop}{x:V}{k:Nat}{v:aZ}{expr:Bool}(c:qK X)(h:ZM X k Q x H)(hv:VR v x):Tr X.n lJ (getAttr v (mV k) expr) lK H (VQ lK Q) E:=by
 cases x<;>try exact a9 h
 rename_i a;obtain⟨ob,ho,h⟩:=h;cases ob<;>try exact a9 h
 rename_i C d;let h:=IC.elim h;refine Up (x:=.ref a) (lW.intro ho h.2) hv λC' jj=>?_;obtain⟨a',d',e1,e2⟩:=jj;cases e1;rw[ho]at e2;cases e2;exact c.fld C k h.1
def SE.nt(e:SE X)(p:Pos):SE X where
 ex:=.UnaryOp .Not e.ex p
 ev:=λlK H E Q=>e.ev lK H E<|IF<|ntV Q
 tv:=λlK H E T=>e.tv lK H E<|ntK T
 ok:=λlJ lK H E Q c o h=>by rw[arm_eval_UnaryOp];refine gF (e.ok lJ lK H E _ c o h) λv x H' hv q=>gx<|gy<|gA ?_;exact gA<|gH (yL q hv) λb H' q=>gB ⟨rfl,_,.bool _,q⟩
 tok:=λlJ lK H E T c o h=>by rw[arm_isTrue_UnaryOp];exact gH (e.tok lJ lK H E _ c o h) λb H' q=>gB ⟨rfl,q⟩
def SE.bo(l:SE X)(op:Operator)(r:SE X)(p:Pos):SE X:=.plain (.BinOp l.ex op r.ex p) (λlK H E Q=>l.ev lK H E<|boK lK E op r Q)
 (λlJ lK H E Q c o h=>by rw[arm_eval_BinOp];exact gF (l.ok lJ lK H E _ c o h) λv x H' hv q=>gF (gA<|r.ok lJ lK H' E _ c o q) λw y IB hw q=>gx<|gy<|gG<|T1 q hv hw) λ_ _=>rfl
def SE.cm(l:SE X)(op:CmpOp)(r:SE X)(p:Pos)(hm:aJ 0 (kE r.ex)=af):SE X where
 ex:=.Compare l.ex [op] [r.ex] p
 ev:=λlK H E Q=>l.ev lK H E<|cmK lK E op r Q
 tv:=λlK H E T=>l.ev lK H E<|cmK lK E op r<|IF T
 ok:=λlJ lK H E Q c o h=>by rw[arm_eval_Compare];refine gF (l.ok lJ lK H E _ c o h) λv x H' hv q=>?_;show Tr _ _ (do let rv<-bV [v] (markedBehindIn op r.ex<|eval r.ex lJ);ch p;PySem.operate [v,rv] (compareOp op v rv)) _ _ _ _;rw[(Ny hm).ma];exact gF (gA<|r.ok lJ lK H' E _ c o q) λw y IB hw q=>gx<|gy<|gG<|Of q hv hw
 tok:=λlJ lK H E T c o h=>by rw[arm_isTrue_Compare];refine gF (l.ok lJ lK H E _ c o h) λv x H' hv q=>?_;show Tr _ _ (do let rv<-bV [v] (markedBehindIn op r.ex<|eval r.ex lJ);ch p;let c<-PySem.operate [v,rv] (compareOp op v rv);bV [c] (truthy c)) _ _ _ _;rw[(Ny hm).ma];exact gF (gA<|r.ok lJ lK H' E _ c o q) λw y IB hw q=>gx<|gy<|gF (gG<|Of q hv hw) λz u H3 hz q=>gA<|yL q hz
def SE.ie(c a b:SE X)(p:Pos):SE X where
 ex:=.IfExp c.ex a.ex b.ex p
 ev:=λlK H E Q=>c.tv lK H E<|ieK lK E a b Q
 tv:=λ_ _ _ _=>False
 ok:=λlJ lK H E Q k o h=>by
  rw[arm_eval_IfExp];refine gH (c.tok lJ lK H E _ k o h) λt H' q=>?_;cases t with
  |true=>exact a.ok lJ lK H' E _ k o q.tt
  |false=>exact b.ok lJ lK H' E _ k o q.ff
 tok:=λ_ _ _ _ _ _ _ h=>h.elim
def SE.at(e:SE X)(k:Nat)(p:Pos)(hb:(!aF (kE e.ex) 2)=af):SE X:=.plain (.Attribute e.ex (mV k) p)
 (λlK H E Q=>e.ev lK H E<|ZM X k Q)
 (λlJ lK H E Q c o h=>by rw[arm_eval_Attribute,Ot hb];exact gF (e.ok lJ lK H E _ c o h) λv x H' hv q=>gx<|gy<|gF (gA<|F8 c q hv) λr y IB hr q=>gx<|Tr.Ou<|gB ⟨rfl,y,hr,q⟩) λ_ _=>rfl
def SE.su(e i:SE X)(p:Pos):SE X:=.plain (.Subscript e.ex i.ex p) (λlK H E Q=>e.ev lK H E<|suK lK E i Q)
 (λlJ lK H E Q c o h=>by rw[eC];exact gF (e.ok lJ lK H E _ c o h) λv x H' hv q=>gF (gA<|i.ok lJ lK H' E _ c o q) λw y IB hw q=>gx<|gy<|T6 q hv hw) λ_ _=>rfl
def D7(x:V)(K:Option Int->Prop):Prop:=match x with
 |.none=>K aI
 |.int i=>K (aq i)
 |_=>False
theorem D7.elim{x:V}{K:Option Int->Prop}(h:D7 x K):∃o,S5 x=aq o/\K o:=by cases x<;>first|exact a9 h|exact⟨_,rfl,h⟩
def Ov(o:Option<|SE X)(lK:Loc)(H:AH)(E:AH->Prop)(Q:V->AH->Prop):Prop:=match o with
 |none=>Q .none H
 |some e=>e.ev lK H E Q
theorem xO{o:Option (SE X)}{lJ:Env}{lK:Loc}{H:AH}{E:AH->Prop}{Q:V->AH->Prop}(c:qK X)(k:oW X lJ)(h:Ov o lK H E Q):Tr X.n lJ (valueOrNone<|evalOpt (o.map (·.ex)) lJ) lK H (VQ lK Q) E:=by
 cases o with
 |none=>exact gB ⟨rfl,_,.none,h⟩
 |some e=>exact e.ok lJ lK H E Q c k h
def sl3(Q:V->AH->Prop)(x l u:V)(H:AH):Prop:=D7 l λl=>D7 u λu=>T7 x l u H Q
def sl2(hi:Option<|SE X)(lK:Loc)(E:AH->Prop)(Q:V->AH->Prop)(x l:V)(H:AH):Prop:=Ov hi lK H E<|sl3 Q x l
def sl1(lo hi:Option<|SE X)(lK:Loc)(E:AH->Prop)(Q:V->AH->Prop)(x:V)(H:AH):Prop:=Ov lo lK H E<|sl2 hi lK E Q x
def SE.sl(e:SE X)(lo hi:Option<|SE X)(ps p:Pos):SE X:=.plain (.Subscript e.ex (.Slice (lo.map (·.ex)) (hi.map (·.ex)) aI ps) p)
 (λlK H E Q=>e.ev lK H E<|sl1 lo hi lK E Q)
 (λlJ lK H E Q c o h=>by rw[eC];refine gF (e.ok lJ lK H E _ c o h) λv x H' hv q=>?_;rw[gn];refine Tr.yM (Tr.assoc<|gF (xO c o q) λl yl H2 hl q=>Tr.assoc<|Tr.yM<|gF (xO c o q) λu yu H3 hu q=>?_);obtain⟨pl,e1,q⟩:=D7.elim q;obtain⟨pu,e2,q⟩:=D7.elim q;exact Tr.assoc<|gx<|gA<|gB<|T9 q hv (hl.part e1)<|hu.part e2) λ_ _=>rfl
def SE.rv(e st:SE X)(ps p:Pos):SE X:=.plain (.Subscript e.ex (.Slice aI aI (aq st.ex) ps) p)
 (λlK H E Q=>e.ev lK H E λx H=>st.ev lK H E λu H=>match u with
  |.int i=>mh (i= -1) (T8 x H Q)
  |_=>False)
 (λlJ lK H E Q c o h=>by
  rw[eC];refine gF (e.ok lJ lK H E _ c o h) λv x H' hv q=>?_;rw[gn];refine Tr.yM (Tr.assoc<|gx<|gB<|Tr.assoc<|gx<|gA<|gB<|Tr.assoc<|Tr.yM ?_);refine gF (st.ok lJ lK H' E _ c o q) λu y H2 hu q=>?_;split at q
  .obtain⟨e1,q'⟩:=gD q;obtain⟨t,rfl⟩:=hu.int_inv;subst e1;exact Ua q' hv (.int _ _)
  .exact q.elim) λ_ _=>rfl
def oa.nil:oa X where
 qx:=[]
 ev:=λ_ H _ K=>K [] H
 ok:=λ_ _ _ _ _ _ _ h=>h
 plain:=λ_=>rfl
 tests:=λ_ H _ op T=>T (op==.And) H
 tok:=λlJ lK H E op T c o h=>gB ⟨rfl,h⟩
def oa.cons(e:SE X)(es:oa X)(hp:aJ 0 (kE e.ex)=af):oa X where
 qx:=e.ex::es.qx
 ev:=λlK H E K=>e.ev lK H E<|csK lK E es K
 ok:=λlJ lK H E K c o h=>gC (e.ok lJ lK H E _ c o h) λv l H'⟨e1,x,hv,q⟩=>⟨e1,x,hv,es.ok lJ lK H' E _ c o q⟩
 plain:=λlJ=>by rw[(Ny hp).st,es.plain];rfl
 tests:=λlK H E op T=>e.tv lK H E<|tsK lK E es op T
 tok:=λlJ lK H E op T c o h=>by
  refine gH (e.tok lJ lK H E _ c o h) λb H' q=>?_;cases op<;>cases b
  .exact gB ⟨rfl,q.ff⟩
  .exact es.tok lJ lK H' E _ _ c o q.tt
  .exact es.tok lJ lK H' E _ _ c o q.ff
  .exact gB ⟨rfl,q.tt⟩
theorem IF.get{Q:Bool->AH->Prop}{x:V}{H:AH}(h:IF Q x H):∃b,x=.bool b/\Q b H:=by cases x<;>first|exact a9 h|exact⟨_,rfl,h⟩
def SE.b2(op:BoolOp)(a b:SE X)(p:Pos)(hp:aJ 0 (kE a.ex)=af)(hq:aJ 0 (kE b.ex)=af):SE X where
 ex:=.BoolOp op [a.ex,b.ex] p
 ev:=λlK H E Q=>a.ev lK H E<|IF<|b2K op b lK E Q
 tv:=λlK H E T=>(oa.cons a (oa.cons b .nil hq) hp).tests lK H E op T
 ok:=λlJ lK H E Q c o h=>by
  rw[arm_eval_BoolOp];refine gF (a.ok lJ lK H E _ c o h) λv x H' hv q=>gx<|gy ?_;obtain⟨t,rfl,q⟩:=q.get;obtain rfl:=hv.bool_inv;refine gx<|gA<|gB ?_;cases op<;>cases t
  .exact gB ⟨rfl,_,VR.bool _,q.ff⟩
  .exact b.ok lJ lK H' E _ c o q.tt
  .exact b.ok lJ lK H' E _ c o q.ff
  .exact gB ⟨rfl,_,VR.bool _,q.tt⟩
 tok:=λlJ lK H E T c o h=>by rw[arm_isTrue_BoolOp];exact(oa.cons a (oa.cons b .nil hq) hp).tok lJ lK H E op T c o h
def SE.bn(op:BoolOp)(es:oa X)(p:Pos):SE X where
 ex:=.BoolOp op es.qx p
 ev:=λ_ _ _ _=>False
 tv:=λlK H E T=>es.tests lK H E op T
 ok:=λ_ _ _ _ _ _ _ h=>h.elim
 tok:=λlJ lK H E T c o h=>by rw[arm_isTrue_BoolOp];exact es.tok lJ lK H E op T c o h
theorem sZ{es:oa X}{p:Pos}{lJ:Env}:backTo p (starEach es.qx lJ)=(evalEach es.qx lJ).map λt=>(ag,t):=by rw[es.plain];unfold backTo;rw[cO];rfl
def SE.tp(es:oa X)(k:Nat)(p:Pos):SE X:=.plain (.Tuple es.qx k p) (λlK H E Q=>es.ev lK H E<|tpK Q)
 (λlJ lK H E Q c o h=>by rw[arm_eval_Tuple,sZ];refine gx (gy<|gx<|gC (xl<|es.ok lJ lK H E _ c o h) λvs l H' jj=>?_);obtain⟨e1,xs,qG,q⟩:=jj;obtain rfl:=e1.symm;obtain⟨lt,q⟩:=gD q;have ll:=qG.len;refine gz λS X' A s ok st [oS:oz s]=>?_;refine wpAny_newTuple ⟨lK,upd H' s.heap.objs.size<|.tup xs,st.alloc ⟨_,0,bE _ rfl,by simpa using qG,by rw[mA];exact("([<R.&v*s/2?Nm<$#",lt)⟩,rfl,.ref _,.ref _,q.elim _<|st.qJ<|mL _⟩ (by rw[mA];exact("D}L+gc,8Q&y[JV(L6/%#",lt,ll))) λ_ _=>rfl
def SE.ls(es:oa X)(p:Pos):SE X:=.plain (.List es.qx p) (λlK H E Q=>es.ev lK H E<|lsK Q)
 (λlJ lK H E Q c o h=>by rw[arm_eval_List,sZ];refine gx (gy<|gx<|gC (xl<|es.ok lJ lK H E _ c o h) λvs l H' jj=>?_);obtain⟨e1,xs,qG,q⟩:=jj;obtain rfl:=e1.symm;obtain⟨lt,q⟩:=gD q;have ll:=qG.len;refine gz λS X' A s ok st [oS:oz s]=>?_;refine wpAny_newList ⟨lK,upd H' s.heap.objs.size<|.list xs,st.alloc ⟨_,0,IsL.new _ _,by simpa using qG,by rw[mA];exact("([<R.&v*s/2?Nm<$#",lt)⟩,rfl,.ref _,.ref _,q.elim _<|st.qJ<|mL _⟩ (by rw[mA];exact("D}L+gc,8Q&y[JV(L6/%#",lt,ll))) λ_ _=>rfl
end
def KvL(keys:List Nat)(rG:List<|aZ×aZ)(xs:List V):Prop:=∃ts:List (Tok×aZ),rG=fv (λk(t:Tok×aZ)=>(gp (mV k) t.1,t.2)) keys ts/\ts.length=keys.length/\oB (ts.map (·.2)) xs
def IH(keys:List Nat)(xs:List V):List (Nat×V):=(keys.zip xs).foldl (λes kx=>Ir kx.1 kx.2 es) []
section
variable{n:Nat}{lJ:Env}{lK:Loc}{H:AH}{E:AH->Prop}{Q:V->AH->Prop}
theorem Ow{p:Pos}{keys:List (Nat×Pos)}:∀{ts:List (Sem aZ)}{H:AH}{K:List V->AH->Prop},keys.length=ts.length->Ul n lJ lK E ts H K->
  Tr n lJ (evalPairs<|fv (λ(kp:Nat×Pos) t=>(mkText<|mV kp.1,do let x<-t;ch p;dD x)) keys ts) lK H (λrG l H'=>l=lK/\∃xs,KvL (keys.map (·.1)) rG xs/\K xs H') E:=by
 induction keys with
 |nil=>
  intro ts H K e h;cases ts with
  |nil=>exact gB ⟨rfl,[],⟨[],rfl,rfl,.nil⟩,h⟩
  |cons _ _=>exact(Nat.succ_ne_zero _ e.symm).elim
 |cons kp keys ih=>
  intro ts H K e h;cases ts with
  |nil=>exact(Nat.succ_ne_zero _ e).elim
  |cons t ts=>
   rw[fw,evalPairs];refine gF (Q:=λx H'=>x=.nm kp.1/\H'=H) (gz λS X A s ok st=>fV ⟨lK,H,st,rfl,_,.nm ..,rfl,rfl⟩) λkv x H' hkv jj=>?_;obtain⟨e1,e2⟩:=jj;subst e1 e2;obtain⟨tk,rfl⟩:=hkv.tJ;refine gF (gA<|gF h λv y H2 hv q=>gx<|gy<|gB ⟨rfl,y,hv,q⟩) λv y H2 hv q=>?_;refine gx<|gA<|gC (ih (Nat.succ.inj e) q) λrG l H3 jj=>?_;obtain⟨e3,xs,⟨tv,e4,e5,e6⟩,q'⟩:=jj;subst e4;exact gB ⟨e3,y::xs,⟨(tk,v)::tv,rfl,congrArg Nat.succ e5,.cons hv e6⟩,q'⟩
theorem Gy{prog:Program}{w:World}{keys:List Nat}:∀{ts:List (Tok×aZ)}{xs:List V},ts.length=keys.length->oB (ts.map (·.2)) xs->
  ∃rG:List (Str×aZ),Carries (strKind prog w) (fv (λk(t:Tok×aZ)=>(gp (mV k) t.1,t.2)) keys ts) rG/\rG.length=keys.length/\
   ∀(acc:List<|Str×aZ)(es:List<|Nat×V),TX acc es->TX (merged acc rG) ((keys.zip xs).foldl (λes kx=>Ir kx.1 kx.2 es) es):=by
 induction keys with
 |nil=>
  intro ts xs e h;cases ts with
  |nil=>cases h;exact⟨[],trivial,rfl,λacc es r=>r⟩
  |cons _ _=>exact(Nat.succ_ne_zero _ e).elim
 |cons k keys ih=>
  intro ts xs e h;cases ts with
  |nil=>exact(Nat.succ_ne_zero _ e.symm).elim
  |cons t ts=>
   obtain⟨t,v⟩:=t;rw[bS]at h;cases h with
   |cons hv h=>
    obtain⟨rG,c,l,m⟩:=ih (Nat.succ.inj e) h;refine⟨(mV k,v)::rG,⟨strKind_is _ _ _ _,rfl,c⟩,congrArg Nat.succ l,λacc es r=>?_⟩;show TX (merged (stored acc (mV k) v) rG) _;exact m _ _<|Ok r hv
end
section
variable{X:Cx}
theorem Ox{keys:List (Nat×Pos)}{es:List Expr}{lJ:Env}{p:Pos}:(evalEachOpt (keys.map λkp=>aq<|.Constant (.str (mV kp.1)) 0 kp.2) lJ).zip ((evalEach es lJ).map λv=>do let x<-v;ch p;dD x)=
  (fv (λ(kp:Nat×Pos) t=>(mkText<|mV kp.1,(do let x<-t;ch p;dD x:Sem aZ))) keys<|evalEach es lJ).map λq=>(aq q.1,q.2):=by
 induction keys generalizing es with
 |nil=>rfl
 |cons kp keys ih=>
  cases es with
  |nil=>rfl
  |cons e es=>
   rw[bS,arm_evalEachOpt_cons,arm_evalEach_cons,bS,List.zip_cons_cons,ih,fw,bS];rfl
def SE.dc(keys:List<|Nat×Pos)(es:oa X)(p:Pos)(hl:keys.length=es.qx.length)(h0:keys≠[])(h1:keys.length<=15):SE X:=.plain (.Dict (keys.map λkp=>aq<|.Constant (.str (mV kp.1)) 0 kp.2) es.qx p)
 (λlK H E Q=>mC H (.sd []) λd H=>es.ev lK H E λxs H=>match d with
  |.ref a=>lW H a λo=>(match o with
   |.sd []=>Q (.ref a) (upd H a<|.sd (IH (keys.map (·.1)) xs))
   |_=>False)
  |_=>False)
 (λlJ lK H E Q c o h=>by
  have ll:∀l:List Expr,(evalEach l lJ).length=l.length:=λl=>by
   induction l with
   |nil=>rfl
   |cons e l ih=>rw[arm_evalEach_cons,bO,bO,ih]
  have YB:keys.length=(evalEach es.qx lJ).length:=by rw[ll];exact hl
  rw[arm_eval_Dict,Ox,dictDisplay_pairs _ (by intro q;have:=congrArg List.length q;rw[dR,<-YB,Nat.min_self]at this;exact h0<|List.length_eq_zero_iff.mp this) (by rw[dR,<-YB,Nat.min_self];exact("(Jri_kI.d$#",h1))]
  refine gx (gy ?_);intro S X' A s ok st oS;have wf:St S X' lJ lK (upd H s.heap.objs.size<|.sd []) (s.heap.push {cls:=.type "dict",data:=.dict #[]}):=st.alloc ⟨[],Heap.DictOf.new _,.nil⟩;have q:=h.elim s.heap.objs.size (st.qJ<|mL _);have main:=Ow (p:=p) (keys:=keys) YB (es.ok lJ lK _ E _ c o q);unfold subDict;refine mi (mi<|gs<|wpAny_alloc<|mi<|nN ?_);rw[mZ (by rw[dR,<-YB,Nat.min_self];exact h1)];refine mi (pk (main S X' A {s with heap:=_} ok wf) (λrG s' jj=>?_) λ_ _ q=>q);obtain@⟨l,H',D6,nA,⟨e1,xs,⟨ts,e2,e3,e4⟩,q9⟩⟩:=jj;subst e1 e2;obtain⟨ob,ho,q9⟩:=q9;cases ob with
  |sd Wv=>
   cases Wv with
   |nil=>
    obtain⟨kv0,d0,r0⟩:=nA.obj ho;cases r0;obtain⟨ZN,c1,c2,c3⟩:=Gy (prog:=G.prog) (w:=G.w) e3 e4;refine nN (mi<|gs<|wpAny_storeAll _ ZN [] s' _ c1 d0 (by rw[c2,mA,cZ,cF];exact("%m^i(RzTw7;rJ;v$#",h1)) λh' hm hs=>?_);refine m9 (m9<|m9 ⟨l,upd H' s.heap.objs.size<|.sd (IH (keys.map (·.1)) xs),nA.change ho rfl hs ⟨_,hm,by unfold IH;exact c3 [] [] .nil⟩,rfl,.ref _,.ref _,q9⟩)
   |cons _ _=>exact q9.elim
  |_=>exact q9.elim) λ_ _=>rfl
def SE.dz(p:Pos):SE X:=.plain (.Dict [] [] p) (λlK H E Q=>mC H (.zd []) Q)
 (λlJ lK H E Q c o h=>gz λS X' A s ok st [oS:oz s]=>by refine wpAny_Dict_empty ⟨lK,upd H s.heap.objs.size<|.zd [],st.alloc ⟨[],Heap.DictOf.new _,.nil,?_⟩,rfl,.ref _,.ref _,h.elim _<|st.qJ<|mL _⟩;obtain⟨o,_,_,ho,_⟩:=st.r.b.g.T.g;have:=bQ (st.r.b.base _ _ ho);exact beq_eq_false_iff_ne.mpr<|dX<|Nat.lt_trans ("") this) λ_ _=>rfl
end
@[irreducible]noncomputable def aCall(X:Cx)(a:bp)(xs:List V)(H:AH)(Q:V->AH->Prop)(E:AH->Prop):Prop:=∃m,X.n=m+1/\mH m (.ref a) xs H Q E
theorem aCall.intro{X:Cx}{a:bp}{xs:List V}{H:AH}{Q:V->AH->Prop}{E:AH->Prop}{m:Nat}(e:X.n=m+1)(c:mH m (.ref a) xs H Q E):aCall X a xs H Q E:=by unfold aCall;exact⟨m,e,c⟩
theorem aCall.elim{X:Cx}{a:bp}{xs:List V}{H:AH}{Q:V->AH->Prop}{E:AH->Prop}(h:aCall X a xs H Q E):∃m,X.n=m+1/\mH m (.ref a) xs H Q E:=by unfold aCall at h;exact h
def BI.num:BI->Nat
 |.len=>13
 |.sum=>22
 |.min=>16
 |.max=>15
 |.int=>11
 |.bytes=>58
 |.list=>36
 |.Uf=>131
theorem BI.boot(b:BI):bootBuiltins (mV b.num)=aq b.val:=by cases b<;>decide+kernel
theorem Rs:bootBuiltins (mV 116)=aq (.type "bytearray"):=by decide+kernel
theorem E1(k:Nat)(h:k∈[11,13,15,16,22,36,58,69,83,116,119,131]):mV k≠"__name__":=by
 let:([11,13,15,16,22,36,58,69,83,116,119,131].all λk=>mV k !="__name__")=af:=by decide+kernel
 simpa using bT.mp this k h
theorem BI.mem(b:BI):b.num∈[11,13,15,16,22,36,58,69,83,116,119,131]:=by cases b<;>decide
section
variable{X:Cx}{lJ:Env}{lK:Loc}{H:AH}{E:AH->Prop}
theorem AX{α:Type}{i k:Nat}{p:Pos}{f:aZ}{g:aZ->Sem α}{P:α->Loc->AH->Prop}(c:qK X)(e:oW X lJ)(hi:X.nw[i]?=aq (k,.globalImplicit))(hk:k∈[11,13,15,16,22,36,58,69,83,116,119,131])(hb:bootBuiltins (mV k)=aq f)
  (h:Tr X.n lJ (g f) lK H P E):Tr X.n lJ (eval (.Name (mV k) p) lJ>>=g) lK H P E:=by
 refine gx<|gz λS X' A s ok st [oS:oz s]=>?_;let lx:lJ.kindOf (mV k)=aq .globalImplicit:=mM st.e.nd (by rw[e];exact nX hi);exact cJ st.e.kind lx (eD (by rw[st.e.Rc];exact st.r.b.g.T.g.keeps st.r.b.base) (mg_none_of st.r.b.g.KX st.r.b.g.T.g<|c.bi k hk) (by rw[st.e.blt];exact st.r.b.g.T.b.keeps st.r.b.base) ((st.r.b.g.T.builtins _<|E1 k hk).trans hb) ⟨lK,H,st,h⟩)<|qO k
theorem qP{x:Str}{pn p:Pos}{es:oa X}:eval (.Call (.Name x pn) es.qx [] p) lJ=(eval (.Name x pn) lJ>>=λf=>callWith p f [] ((evalEach es.qx lJ).map λt=>(ag,t)) []):=by show(eval (.Name x pn) lJ>>=λf=>callWith p f [] (backTo p<|starEach es.qx lJ)<|backToKw p<|keywordEach [] lJ)=_;rw[sZ];rfl
end
section
variable{X:Cx}
def caK(X:Cx)(a:bp)(E:AH->Prop)(Q:V->AH->Prop)(xs:List V)(H:AH):Prop:=aCall X a xs H Q E
def biK(b:BI)(Q:V->AH->Prop)(xs:List V)(H:AH):Prop:=QP b xs H Q
def SE.ca(i:Nat)(es:oa X)(pn p:Pos):SE X:=.plain (.Call (.Name (mV (X.nw.getD i (0,.free)).1) pn) es.qx [] p)
 (λlK H E Q=>BB X.nw[i]? λk=>VV (X.gf k) λa=>es.ev lK H E<|caK X a E Q)
 (λlJ lK H E Q c o h=>by
  obtain⟨k,hk,h⟩:=BB.elim h
  .obtain⟨a,ha,h⟩:=VV.elim h
   .skip
    have ew:(X.nw.getD i (0,.free)).1=k:=by rw[bq,hk];rfl
    rw[qP,ew];obtain⟨g1,g2⟩:=c.gf k a ha;refine gx (gz λS X' A s ok st [oS:oz s]=>?_);have lx:lJ.kindOf (mV k)=aq .globalImplicit:=mM st.e.nd (by rw[o];exact nX hk);refine cJ st.e.kind lx (fW (by rw[st.e.Rc];exact st.r.b.g.T.g.keeps st.r.b.base) (mg_of st.r.b.g.KX st.r.b.g.T.g g1) ⟨lK,H,st,?_⟩) (qO k);refine oQ (.inr (.inr g2)) (es.ok lJ lK H E _ c o h) λxs vs H2 qG q=>?_;obtain⟨m,e3,q⟩:=aCall.elim q;have z:=Tr.call (lJ:=lJ) (lK:=lK) q qG;have z:=bF (e3)▸z;exact z) λ_ _=>rfl
def SE.bc(b:BI)(i:Nat)(es:oa X)(pn p:Pos):SE X:=.plain (.Call (.Name (mV (X.nw.getD i (0,.free)).1) pn) es.qx [] p)
 (λlK H E Q=>FZ b.num X.nw[i]? (es.ev lK H E<|biK b Q))
 (λlJ lK H E Q c o h=>by
  obtain⟨hk,h⟩:=FZ.elim h
  ··skip
    have ew:(X.nw.getD i (0,.free)).1=b.num:=by refine bF bq▸?_;rw[hk];rfl
    rw[qP];rw[ew];refine AX c o hk b.mem b.boot (oQ ?_ (es.ok lJ lK H E _ c o h) λxs vs H2 qG q=>WH q qG);cases b<;>first|exact .inl ⟨_,rfl⟩|exact .inr (.inl ⟨_,rfl⟩)) λ_ _=>rfl
def SE.ty(i:Nat)(p:Pos):SE X:=.plain (.Name (mV (X.nw.getD i (0,.free)).1) p)
 (λlK H E Q=>FZ 58 X.nw[i]? (Q .tyB H))
 (λlJ lK H E Q c o h=>by
  obtain⟨hk,h⟩:=FZ.elim h
  .skip
   have ew:(X.nw.getD i (0,.free)).1=58:=by rw[bq,hk];rfl
   rw[ew];refine gz λS X' A s ok st [oS:oz s]=>?_;have lx:lJ.kindOf (mV 58)=aq .globalImplicit:=mM st.e.nd (by rw[o];exact nX hk);exact cJ st.e.kind lx (eD (by rw[st.e.Rc];exact st.r.b.g.T.g.keeps st.r.b.base) (mg_none_of st.r.b.g.KX st.r.b.g.T.g<|c.bi 58 ("")) (by rw[st.e.blt];exact st.r.b.g.T.b.keeps st.r.b.base)
    ((st.r.b.g.T.builtins _<|E1 58 ("")).trans (BI.boot .bytes)) ⟨lK,H,st,rfl,_,.tyB,h⟩)<|qO 58) λ_ _=>rfl
def SE.ba(i:Nat)(pn p:Pos):SE X:=.plain (.Call (.Name (mV (X.nw.getD i (0,.free)).1) pn) [] [] p)
 (λlK H E Q=>FZ 116 X.nw[i]? (mh (0<X.n)<|mC H (.ba []) Q))
 (λlJ lK H E Q c o h=>by
  obtain⟨hk,h⟩:=FZ.elim h
  .skip
   obtain⟨hn,h⟩:=gD h;have ew:(X.nw.getD i (0,.free)).1=116:=by refine bF bq▸?_;rw[hk];rfl
   rw[ew];have eq:=qP (X:=X) (x:=mV 116) (pn:=pn) (p:=p) (es:=.nil) (lJ:=lJ);have eq:=(show(oa.nil (X:=X)).qx=[]from rfl)▸eq;rw[eq];refine AX c o hk ("") Rs (oQ (K:=λxs H'=>xs=[]/\H'=H) (.inr (.inl ⟨_,rfl⟩)) (ts:=evalEach [] lJ) ⟨rfl,rfl⟩ λxs vs H2 qG jj=>?_);obtain⟨e1,e2⟩:=jj;subst e1 e2;cases qG;intro S X' A s ok st oS;refine Rn hn ok.1.2.2.1 λh' e1 k=>⟨lK,upd H2 s.heap.objs.size<|.ba [],st.made (mL _) k ⟨e1,aR _⟩,rfl,.ref _,.ref _,h.elim _<|st.qJ<|mL _⟩) λ_ _=>rfl
end
namespace WP
theorem wW:PlainAttrs "bytearray":=⟨⟨"bytearray.__getattribute__",by rw[bM,bB];kernel_rfl,by decide+kernel⟩,by rw[bM,bB];kernel_rfl⟩
theorem BC:typeOf (.builtin "bytearray.append")=pure (.type "method_descriptor"):=by show builtinType _=_;rw[builtinType_eq_fast];kernel_rfl
theorem BD:typeOf (.builtin "bytearray.extend")=pure (.type "method_descriptor"):=by show builtinType _=_;rw[builtinType_eq_fast];kernel_rfl
end WP
def WQ(H:AH)(Q:V->AH->Prop)(a:bp)(v:V)(o:AO):Prop:=match o with
 |.list ys=>mh (ys.length<16777216) (Q .none (upd H a<|.list (ys++[v])))
 |_=>False
def wg(xs:List V)(k:V->Prop):Prop:=match xs with
 |[v]=>k v
 |_=>False
theorem wg.elim{xs:List V}{k:V->Prop}(h:wg xs k):∃v,xs=[v]/\k v:=by
 cases xs with
 |nil=>exact a9 h
 |cons x r=>cases r with
  |nil=>exact⟨x,rfl,h⟩
  |cons _ _=>exact a9 h
def WR(H:AH)(Q:V->AH->Prop)(a:bp)(v:V):Prop:=lW H a<|WQ H Q a v
def Oy(a:bp)(Q:V->AH->Prop)(xs:List V)(H:AH):Prop:=wg xs<|WR H Q a
def WS(H:AH)(Q:V->AH->Prop)(a:bp)(o o':AO):Prop:=match o,o' with
 |.list ys,.list zs=>mh (ys.length+zs.length<=16777216) (Q .none (upd H a<|.list (ys++zs)))
 |_,_=>False
def WT(H:AH)(Q:V->AH->Prop)(a b:bp)(o:AO):Prop:=lW H b<|WS H Q a o
def WU(H:AH)(Q:V->AH->Prop)(a:bp)(v:V):Prop:=match v with
 |.ref b=>lW H a (WT H Q a b)
 |_=>False
def Rt(a:bp)(Q:V->AH->Prop)(xs:List V)(H:AH):Prop:=wg xs<|WU H Q a
def Ut(H:AH)(Q:V->AH->Prop)(a:bp)(i:Int)(o:AO):Prop:=match o with
 |.ba bs=>mh ((0<=i/\i<256)/\bs.length<16777216) (Q .none (upd H a<|.ba (bs++[i.toNat.toUInt8])))
 |_=>False
def Uu(H:AH)(Q:V->AH->Prop)(a:bp)(v:V):Prop:=match v with
 |.int i=>lW H a (Ut H Q a i)
 |_=>False
def S9(a:bp)(Q:V->AH->Prop)(xs:List V)(H:AH):Prop:=wg xs<|Uu H Q a
def Uv(H:AH)(Q:V->AH->Prop)(a:bp)(cs:List UInt8)(o:AO):Prop:=match o with
 |.ba bs=>mh (bs.length+cs.length<=16777216) (Q .none (upd H a<|.ba (bs++cs)))
 |_=>False
def Uw(H:AH)(Q:V->AH->Prop)(a:bp)(v:V):Prop:=match v with
 |.bytes cs=>lW H a (Uv H Q a cs)
 |_=>False
def Ta(a:bp)(Q:V->AH->Prop)(xs:List V)(H:AH):Prop:=wg xs<|Uw H Q a
def Oz(H:AH)(Q:V->AH->Prop)(k:Int)(d:V)(o:AO):Prop:=match o with
 |.zd es=>Q ((oV k es).getD d) H
 |_=>False
def Ux(H:AH)(Q:V->AH->Prop)(a:bp)(x d:V):Prop:=match x with
 |.int k=>lW H a (Oz H Q k d)
 |_=>False
def Tb(a:bp)(Q:V->AH->Prop)(xs:List V)(H:AH):Prop:=QO xs<|Ux H Q a
section
variable{n:Nat}{lJ:Env}{lK:Loc}{H:AH}{E:AH->Prop}{Q:V->AH->Prop}
theorem sO{a:bp}{xs:List V}{vs:List aZ}(h:Oy a Q xs H)(hs:oB vs xs):Tr n lJ (cq (.builtin "list.append")<|[.ref a]++vs) lK H (VQ lK Q) E:=by
 .obtain⟨x,rfl,h⟩:=wg.elim h;obtain⟨v,rfl,hv⟩:=hs.one;obtain⟨o,ho,h⟩:=h;cases o<;>try exact a9 h
  .rename_i ys;let lt:=(gD h).1;let h:=(gD h).2;refine gz λS X A s ok st [oS:oz s]=>?_;obtain⟨ws,k,e,r,l⟩:=st.obj ho;let ll:=r.len;let ll:=bf▸ll;refine append_at e (λh' Nz e'=>⟨lK,upd H a<|.list (ys++_),st.change ho rfl Nz ⟨_,_,e',?_,by rw[cz];rw[mA];exact lt⟩,rfl,_,.none,h⟩) (by rw[ll];exact l);rw[Array.toList_push];exact r.snoc hv
theorem Uy{a:bp}{xs:List V}{vs:List aZ}(h:Rt a Q xs H)(hs:oB vs xs):Tr n lJ (cq (.builtin "list.extend")<|[.ref a]++vs) lK H (VQ lK Q) E:=by
 .obtain⟨x,rfl,h⟩:=wg.elim h;cases x<;>try exact a9 h
  obtain⟨v,rfl,hv⟩:=hs.one;obtain rfl:=hv.nF;obtain⟨o,ho,h1⟩:=h;obtain⟨o',Bp,h2⟩:=h1;cases o<;>try exact a9 h2
  cases o'<;>try exact a9 h2
  .rename_i ys zs;let lt:=(gD h2).1;let h:=(gD h2).2;refine gz λS X A s ok st [oS:oz s]=>?_;obtain⟨ws,k,e,r,l⟩:=st.obj ho;obtain⟨us,k',e',r',l'⟩:=st.obj Bp;let l1:=r.len;let l2:=r'.len;rw[bf]at l1 l2;let hz:ws.size+us.size<=sizeLine:=by rw[mA];rw[l1];rw[l2];exact lt
   refine call_meets F.slot_list_extend ⟨_,e,rfl⟩ F.entry_list_extend (F.args_list_extend_2 _ _) (AutoSeq1.list_extend_list_list_0 a ws k _ us k' (by simp[Builtin.List.listTooLong];intro _;exact("BubC]<m2~&>E&#",hz)) ("Cl[{^toO:X0<&#",l,l1) ("*mZ$Z,?J+Tl^$Q&#",hz))
    ⟨e,e',lK,upd H a<|.list (ys++zs),st.change ho rfl (cM ..) ⟨_,_,e.update _,?_,by rw[cz];rw[mA];exact lt⟩,rfl,_,.none,h⟩
   rw[fU];exact r.append r'
theorem Ru{a:bp}{xs:List V}{vs:List aZ}(hn:0<n)(h:S9 a Q xs H)(hs:oB vs xs):Tr n lJ (cq (.builtin "bytearray.append")<|[.ref a]++vs) lK H (VQ lK Q) E:=by
 .obtain⟨x,rfl,h⟩:=wg.elim h;cases x<;>try exact a9 h
  obtain⟨v,rfl,hv⟩:=hs.one;obtain⟨t,rfl⟩:=hv.int_inv;obtain⟨o,ho,h⟩:=h;cases o<;>try exact a9 h
  .rename_i bs;let c:=(gD h).1.1;let lt:=(gD h).1.2;let h:=(gD h).2;intro S X A s ok st oS;let e:=(st.obj ho).1;let l:=(st.obj ho).2;refine Bx C1.vt C1.z8 (by decide+kernel) ⟨_,e,rfl⟩ (C1.Bs _ _) (LI hn ok.1.2.2.1 e c (by rw[bX];rw[mA];exact lt)
    ⟨_,rfl,lK,upd H a<|.ba (bs++_),st.change ho rfl (cM ..) ⟨?_,by rw[cz];rw[mA];exact lt⟩,rfl,_,.none,h⟩)
   rw[yI _ e];simp
theorem Rv{a:bp}{xs:List V}{vs:List aZ}(hn:0<n)(h:Ta a Q xs H)(hs:oB vs xs):Tr n lJ (cq (.builtin "bytearray.extend")<|[.ref a]++vs) lK H (VQ lK Q) E:=by
 .obtain⟨x,rfl,h⟩:=wg.elim h;cases x<;>try exact a9 h
  obtain⟨v,rfl,hv⟩:=hs.one;obtain⟨d,t,rfl,rfl⟩:=hv.qN;obtain⟨o,ho,h⟩:=h;cases o<;>try exact a9 h
  .rename_i bs;let lt:=(gD h).1;let h:=(gD h).2;let lt:=bf▸lt;intro S X A s ok st oS;let e:=(st.obj ho).1;let l:=(st.obj ho).2;refine Bx C1.vu C1.z9 (by decide+kernel) ⟨_,e,rfl⟩ (C1.Bt _ _) (LJ hn ok.1.2.2.1 e (by rw[bX];rw[mA];exact lt)
    ⟨_,rfl,lK,upd H a<|.ba (bs++d.toList),st.change ho rfl (cM ..) ⟨?_,by rw[cz];rw[mA];rw[bf];exact lt⟩,rfl,_,.none,h⟩)
   rw[yI _ e];exact bF (show bs.toArray++d=(bs++d.toList).toArray from by apply fX.mp;simp)▸rfl
theorem Rw{a:bp}{xs:List V}{vs:List aZ}(h:Tb a Q xs H)(hs:oB vs xs):Tr n lJ (cq (.builtin "dict.get")<|[.ref a]++vs) lK H (VQ lK Q) E:=by
 .refine gu λP9 mG=>?_;obtain⟨x,d,rfl,h⟩:=QO.elim h;refine mG ?_;cases x<;>try exact a9 h
  revert h;rename_i k;intro h;obtain⟨v,u,rfl,hv,hu⟩:=hs.two;obtain⟨t,rfl⟩:=hv.int_inv;obtain⟨o,ho,h⟩:=h;cases o<;>try exact a9 h
  .rename_i es;let h:Q ((oV k es).getD d) H:=h;refine gz λS X A s ok st [oS:oz s]=>?_;obtain⟨rG,e,r,ne⟩:=st.obj ho;let m:=e.mapOf;let q:=KB r (k:=k);refine gm<|codeAny_call_builtin F.slot_dict_get.plain F.entry_dict_get<|F.slot_dict_get.check _ _ _ _ _ _ _ _ m.typeIs (F.args_dict_get_3 _ _ _)<|meets_dict_get_default (intKind G.prog G.w) a (intKind_is _ _ k t) ne u A (wants _ _) s ⟨_,m,?_⟩;cases hq:oV k es with
   |some x=>
    rw[hq]at q h;obtain⟨w,q1,q2⟩:=q;rw[q1];exact⟨lK,H,st,rfl,x,q2,h⟩
   |none=>
    rw[hq]at q h;rw[q];exact⟨lK,H,st,rfl,d,hu,h⟩
end
section
variable{X:Cx}
theorem wc{o:Expr}{k:Nat}{pa p:Pos}{es:oa X}{lJ:Env}{lK:Loc}{H:AH}{E:AH->Prop}{Q:V->AH->Prop}{v f:aZ}{first:List aZ}(hl:es.qx.length<30)(zJ:(pa.endLine==p.line)=af)
  (hg:∀pl,Tr X.n lJ (getMethod v (mV k) pl) lK H (λr l H'=>r=(f,first)/\l=lK/\H'=H) E)
  (h:Tr X.n lJ (callWith p f first ((evalEach es.qx lJ).map λt=>(ag,t)) []) lK H (VQ lK Q) E):
  Tr X.n lJ (methodCall o (mV k) pa p lJ v (es.qx.length+([]:List Keyword).length) (backTo p<|starEach es.qx lJ)<|backToKw p<|keywordEach [] lJ) lK H (VQ lK Q) E:=by
 have ZO:methodCallForm (es.qx.length+([]:List Keyword).length) (backTo p<|starEach es.qx lJ) (backToKw p<|keywordEach [] lJ)=af:=by unfold methodCallForm;rw[sZ];simp[backToKw,arm_keywordEach_nil,hl]
 have ZP:methodCallPos af o lJ pa p=pure p:=by unfold methodCallPos;simp[zJ]
 unfold methodCall;rw[ZO];refine gx<|gA ?_;refine gC (hg _) λr l H' jj=>?_;obtain⟨e1,e2,e3⟩:=jj;subst e1 e2 e3;rw[ZP];refine gx<|gB ?_;rw[sZ];exact h
def meA(X:Cx)(f a:bp)(E:AH->Prop)(Q:V->AH->Prop)(xs:List V)(H:AH):Prop:=aCall X f (.ref a::xs) H Q E
def YC(o:Option V)(p:Prop):Prop:=match o with
 |none=>p
 |some _=>False
theorem YC.elim{o:Option V}{p:Prop}(h:YC o p):o=aI/\p:=by
 cases o
 .exact⟨rfl,h⟩
 .exact a9 h
def me2(lK:Loc)(E:AH->Prop)(es:oa X)(k:Nat)(Q:V->AH->Prop)(H:AH)(f a:bp)(o:AO):Prop:=match o with
 |.at Wv=>YC (sX k Wv) (es.ev lK H E<|meA X f a E Q)
 |_=>False
def meF(es:oa X)(k:Nat)(lK:Loc)(E:AH->Prop)(Q:V->AH->Prop)(H:AH)(a d:bp)(o:Option bp):Prop:=match o with
 |some f=>lW H d (me2 lK E es k Q H f a)
 |none=>False
def Uz(es:oa X)(k:Nat)(lK:Loc)(E:AH->Prop)(H:AH)(k1 k2:List V->AH->Prop):Prop:=bif aF k 73 then es.ev lK H E k1 else bif aF k 77 then es.ev lK H E k2 else False
theorem Uz.elim{es:oa X}{k:Nat}{lK:Loc}{E:AH->Prop}{H:AH}{k1 k2:List V->AH->Prop}(h:Uz es k lK E H k1 k2):(k=73/\es.ev lK H E k1)∨(k=77/\es.ev lK H E k2):=by
 unfold Uz at h;cases e:aF k 73 with
 |true=>let h:=e▸h;exact .inl ⟨bJ e,h⟩
 |false=>
  have h:=e▸h;cases e2:aF k 77 with
  |true=>let h:=e2▸h;exact .inr ⟨bJ e2,h⟩
  |false=>let h:=e2▸h;exact a9 h
def me1(lK:Loc)(E:AH->Prop)(es:oa X)(k:Nat)(Q:V->AH->Prop)(H:AH)(a:bp)(o:AO):Prop:=match o with
 |.inst C d=>meF es k lK E Q H a d (X.QQ C k)
 |.list _=>Uz es k lK E H (Oy a Q) (Rt a Q)
 |.ba _=>mh (0<X.n) (Uz es k lK E H (S9 a Q)<|Ta a Q)
 |.zd _=>IC (aF k 10) (es.ev lK H E<|Tb a Q)
 |_=>False
def meK(lK:Loc)(E:AH->Prop)(es:oa X)(k:Nat)(Q:V->AH->Prop)(x:V)(H:AH):Prop:=match x with
 |.ref a=>lW H a (me1 lK E es k Q H a)
 |_=>False
def SE.me(e:SE X)(k:Nat)(es:oa X)(pa p:Pos)(hb:(!aF (kE e.ex) 2)=af)(hl:aJ es.qx.length 30=af)(zJ:(pa.endLine==p.line)=af):SE X:=.plain (.Call (.Attribute e.ex (mV k) pa) es.qx [] p)
 (λlK H E Q=>e.ev lK H E<|meK lK E es k Q)
 (λlJ lK H E Q c o h=>by
  rw[arm_eval_Call,Ot hb];refine gF (e.ok lJ lK H E _ c o h) λv x H' hv q=>gx (gy ?_);cases x<;>try exact a9 q
  .rename_i a;obtain rfl:=hv.nF;obtain⟨ob,ho,q⟩:=q;cases ob<;>try exact a9 q
   .obtain⟨rfl,q⟩|⟨rfl,q⟩:=Uz.elim q
    .refine wc (ak hl) zJ (λpl=>gz λS X' A s ok st [oS:oz s]=>?_) (oQ (first:=[.ref a]) (.inl ⟨_,rfl⟩) (es.ok lJ lK H' E _ c o q) λxs vs H2 qG q=>sO q qG);obtain⟨ws,kk,e,r,l⟩:=st.obj ho;exact cU (T:="list") (name:=mV 73) ⟨_,e,rfl⟩ F.plainAttrs_list (show Slot "list" (mV 73) "list.append"from F.slot_list_append) F.type_list_append (λb eb=>by cases eb;exact⟨_,e,rfl⟩) ⟨lK,H',st,rfl,rfl,rfl⟩
    .refine wc (ak hl) zJ (λpl=>gz λS X' A s ok st [oS:oz s]=>?_) (oQ (first:=[.ref a]) (.inl ⟨_,rfl⟩) (es.ok lJ lK H' E _ c o q) λxs vs H2 qG q=>Uy q qG);obtain⟨ws,kk,e,r,l⟩:=st.obj ho;exact cU (T:="list") (name:=mV 77) ⟨_,e,rfl⟩ F.plainAttrs_list (show Slot "list" (mV 77) "list.extend"from F.slot_list_extend) F.type_list_extend (λb eb=>by cases eb;exact⟨_,e,rfl⟩) ⟨lK,H',st,rfl,rfl,rfl⟩
   .obtain⟨WV,q⟩:=IC.elim q;obtain rfl:=bJ WV
    .refine wc (ak hl) zJ (λpl=>gz λS X' A s ok st [oS:oz s]=>?_) (oQ (first:=[.ref a]) (.inl ⟨_,rfl⟩) (es.ok lJ lK H' E _ c o q) λxs vs H2 qG q=>Rw q qG);obtain⟨rG,⟨ob,eds,ep,e,⟨e2,e3,e4⟩,_⟩,_⟩:=st.obj ho;exact cU (T:="dict") (name:=mV 10) ⟨_,e,e2⟩ F.plainAttrs_dict (show Slot "dict" (mV 10) "dict.get"from F.slot_dict_get) F.type_dict_get (λb eb=>by cases eb;exact⟨_,e,e3⟩) ⟨lK,H',st,rfl,rfl,rfl⟩
   .rename_i C d;have q:meF es k lK E Q H' a d (X.QQ C k):=q;cases hf:X.QQ C k with
    |none=>rw[hf]at q;exact a9 q
    |some f=>
     have q:=hf▸q;obtain⟨UA,Bp,q⟩:=q;cases UA<;>try exact a9 q
     .rename_i Wv;obtain⟨hn,q⟩:=YC.elim q
      .skip
       have M:=c.QQ C k f hf;refine wc (ak hl) zJ (λpl=>Ur ho Bp hn M ⟨rfl,rfl,rfl⟩) (oQ (first:=[.ref a]) (.inr (.inr M.2.2.2)) (es.ok lJ lK H' E _ c o q) λxs vs H2 qG q=>?_);obtain⟨m,e3,q⟩:=aCall.elim q;have z:=Tr.call (lJ:=lJ) (lK:=lK) q (.cons (.ref a) qG);have z:=bF (e3)▸z;exact z
   .obtain⟨hn,q⟩:=gD q;obtain⟨rfl,q⟩|⟨rfl,q⟩:=Uz.elim q
    .refine wc (ak hl) zJ (λpl=>gz λS X' A s ok st [oS:oz s]=>?_) (oQ (first:=[.ref a]) (.inl ⟨_,rfl⟩) (es.ok lJ lK H' E _ c o q) λxs vs H2 qG q=>Ru hn q qG);obtain⟨e,l⟩:=st.obj ho;exact cU (T:="bytearray") (name:=mV 73) ⟨_,e,rfl⟩ WP.wW (show Slot "bytearray" (mV 73) "bytearray.append"from C1.vt) WP.BC (λb eb=>by cases eb;exact⟨_,e,rfl⟩) ⟨lK,H',st,rfl,rfl,rfl⟩
    .refine wc (ak hl) zJ (λpl=>gz λS X' A s ok st [oS:oz s]=>?_) (oQ (first:=[.ref a]) (.inl ⟨_,rfl⟩) (es.ok lJ lK H' E _ c o q) λxs vs H2 qG q=>Rv hn q qG);obtain⟨e,l⟩:=st.obj ho;exact cU (T:="bytearray") (name:=mV 77) ⟨_,e,rfl⟩ WP.wW (show Slot "bytearray" (mV 77) "bytearray.extend"from C1.vu) WP.BD (λb eb=>by cases eb;exact⟨_,e,rfl⟩) ⟨lK,H',st,rfl,rfl,rfl⟩) λ_ _=>rfl
end
def LQ(K:Loc->AH->Prop):Unit->Loc->AH->Prop:=λ_ l H=>K l H
structure ST(X:Cx)where
 ex:Expr
 ev:V->Loc->AH->(AH->Prop)->(Loc->AH->Prop)->Prop
 ok:∀lJ lK H E K v x,qK X->oW X lJ->VR v x->ev x lK H E K->Tr X.n lJ (assign ex lJ v) lK H (LQ K) E
structure po(X:Cx)where
 qx:List Expr
 ev:List V->Loc->AH->(AH->Prop)->(Loc->AH->Prop)->Prop
 ok:∀lJ lK H E K vs xs,qK X->oW X lJ->oB vs xs->ev xs lK H E K->Tr X.n lJ (assignInOrder ((assignEach qx lJ).map (·.2)) vs) lK H (LQ K) E
 cnt:Nat
 len:∀lJ,(assignEach qx lJ).length=cnt
 plain:∀lJ,(assignEach qx lJ).findIdx? (·.1)=aI
section
variable{n:Nat}{lJ:Env}{lK:Loc}{H:AH}{E:AH->Prop}{K:Loc->AH->Prop}
theorem Tr.D8{α:Type}{m:Sem Unit}{f:Unit->Sem α}{P:α->Loc->AH->Prop}(h:Tr n lJ m lK H (LQ K) E)(k:∀l H',K l H'->Tr n lJ (f ()) l H' P E):Tr n lJ (m>>=f) lK H P E:=
 gx (gC h λu l H' q=>by cases u;exact k l H' q)
theorem AY{i:Nat}{x:Str}{kd:bu}{v:aZ}{y:V}(hi:lJ.scope.names[i]?=aq (x,kd))(hk:kd=.local∨kd=.cell/\0<n)(hv:VR v y)(h:K (xh lK i y) H):Tr n lJ (bindName lJ x v) lK H (LQ K) E:=by
 refine gz λS X A s ok st=>wpAny_bindName ?_;have lx:lJ.kindOf x=aq kd:=mM st.e.nd hi;rcases hk with rfl|⟨rfl,hn⟩
 .obtain⟨m,hm,r⟩:=st.e.ns;let kk:=st.e.kind;refine wpAny_storeName_local lx hm (λh' hn hs=>⟨xh lK i y,H,?_,h⟩) (by rw[kk];rfl);refine st.bindL hi hv (λm' KI=>?_) hs;have e:m'=m:=by
   obtain⟨o,es,ep,ho,hd,_,hf⟩:=hm;obtain⟨o',es',ep',Bp,WN,_,hf'⟩:=KI;let Bp:=ho▸Bp;obtain rfl:=(qz Bp).symm;have WN:=hd▸WN;cases WN;funext z;refine hf z▸?_;exact bF (hf' z)▸rfl
  rw[e];exact hn
 .have own:Own lJ:=(ok.2 hn).2;obtain⟨c,hc⟩:=st.e.VO x lx;obtain⟨⟨v0,hv0⟩,_⟩:=st.e.cl own x c lx hc;exact wpAny_storeName_cell st.e.kind lx hc hv0 λh' hn hs=>⟨xh lK i y,H,st.bindC own hi hv hc hn hs,h⟩
end
section
variable{X:Cx}
def ST.nm(i:Nat)(p:Pos):ST X where
 ex:=.Name (mV (X.nw.getD i (0,.free)).1) p
 ev:=λx lK H E K=>match X.nw[i]? with
  |some (_,.local)=>K (xh lK i x) H
  |some (_,.cell)=>mh (0<X.n) (K (xh lK i x) H)
  |_=>False
 ok:=λlJ lK H E K v x c o hv h=>by
  rw[arm_assign_Name];cases hw:X.nw[i]? with
  |none=>rw[hw]at h;exact h.elim
  |some wk=>
   obtain⟨w,kd⟩:=wk;rw[hw]at h;have ew:(X.nw.getD i (0,.free)).1=w:=by refine bF bq▸?_;rw[hw];rfl
   rw[ew];cases kd with
   |«local»=>exact gx (gy<|AY (by rw[o];exact nX hw) (.inl rfl) hv h)
   |cell=>
    obtain⟨hn,h⟩:=gD h;exact gx (gy<|AY (by rw[o];exact nX hw) (.inr ⟨rfl,hn⟩) hv h)
   |_=>exact h.elim
def ZQ(X:Cx)(H:AH)(K:AH->Prop)(k:Nat)(v:V)(o:AO):Prop:=match o with
 |.inst C d=>IC (X.fld C k) (lW H d<|WL H K k v d)
 |_=>False
def ZR(X:Cx)(k:Nat)(v:V)(K:AH->Prop)(x:V)(H:AH):Prop:=match x with
 |.ref a=>lW H a (ZQ X H K k v)
 |_=>False
theorem Tc{X:Cx}{lJ:Env}{lK:Loc}{H:AH}{E:AH->Prop}{K:AH->Prop}{x y:V}{k:Nat}{v u:aZ}(c:qK X)(h:ZR X k y K x H)(hv:VR v x)(hu:VR u y):Tr X.n lJ (setAttr v (mV k) u) lK H (UQ lK K) E:=by
 cases x<;>try exact a9 h
 rename_i a;obtain⟨ob,ho,h⟩:=h;cases ob<;>try exact a9 h
 rename_i C d;let h:=IC.elim h;refine Uq (x:=.ref a) (lW.intro ho h.2) hv hu λC' jj=>?_;obtain⟨a',d',e1,e2⟩:=jj;cases e1;have e2:=ho▸e2;cases e2;exact c.fld C k h.1
def UB(lK:Loc)(E:AH->Prop)(t:ST X)(N:Loc->AH->Prop)(x:V)(H:AH):Prop:=t.ev x lK H E N
def stZ(x:V)(K:AH->Prop)(y z:V)(H:AH):Prop:=Og y z K x H
def stY(i:SE X)(lK:Loc)(E K:AH->Prop)(x y:V)(H:AH):Prop:=i.ev lK H E<|stZ x K y
def stS(ts:po X)(xs:List V)(E:AH->Prop)(K:Loc->AH->Prop)(lK:Loc)(H:AH):Prop:=ts.ev xs lK H E K
def ST.at(e:SE X)(k:Nat)(p:Pos):ST X where
 ex:=.Attribute e.ex (mV k) p
 ev:=λx lK H E K=>e.ev lK H E<|ZR X k x<|K lK
 ok:=λlJ lK H E K v x c o hv h=>by rw[arm_assign_Attribute];refine gF (gA<|e.ok lJ lK H E _ c o h) λov y H' OA q=>gx<|gy ?_;refine gx<|gA<|gC (Tc c q OA hv) λu l H2 jj=>?_;obtain⟨e3,q⟩:=jj;subst e3;exact gz λS X' A s ok st=>eS ⟨l,H2,st,q⟩
def ST.su(e i:SE X)(p:Pos):ST X where
 ex:=.Subscript e.ex i.ex p
 ev:=λx lK H E K=>e.ev lK H E<|stY i lK E (K lK) x
 ok:=λlJ lK H E K v x c o hv h=>by rw[arm_assign_Subscript];refine gF (gA<|e.ok lJ lK H E _ c o h) λov y H' OA q=>gF (gA<|i.ok lJ lK H' E _ c o q) λiv z H2 YD q=>gx<|gy ?_;refine gx<|gA<|gC (Om q OA YD hv) λu l H3 jj=>?_;obtain⟨e3,q⟩:=jj;subst e3;exact gz λS X' A s ok st=>eS ⟨l,H3,st,q⟩
def po.nil:po X where
 qx:=[]
 ev:=λxs lK H E K=>match xs with
  |[]=>K lK H
  |_=>False
 ok:=λlJ lK H E K vs xs c o hv h=>by
  cases xs with
  |nil=>cases hv;exact gB h
  |cons _ _=>exact h.elim
 cnt:=0
 len:=λ_=>rfl
 plain:=λ_=>rfl
def po.cons(t:ST X)(ts:po X)(hp:aJ 0 (kE t.ex)=af):po X where
 qx:=t.ex::ts.qx
 ev:=λxs lK H E K=>match xs with
  |x::xs=>t.ev x lK H E (stS ts xs E K)
  |[]=>False
 ok:=λlJ lK H E K vs xs c o hv h=>by
  rw[(Ny hp).as];cases xs with
  |nil=>exact h.elim
  |cons x xs=>
   cases hv with
   |cons hv qG=>
    rw[bS];show Tr _ _ (do bV _ (assign t.ex lJ _);assignInOrder _ _) _ _ _ _;exact Tr.D8 (gA<|t.ok lJ lK H E _ _ x c o hv h) λl H' q=>ts.ok lJ l H' E K _ _ c o qG q
 cnt:=ts.cnt+1
 len:=λlJ=>by rw[(Ny hp).as,bO,ts.len]
 plain:=λlJ=>by rw[(Ny hp).as,List.findIdx?_cons,ts.plain];rfl
def ZS(ts:po X)(lK:Loc)(H:AH)(E:AH->Prop)(K:Loc->AH->Prop)(o:AO):Prop:=match o with
 |.tup xs=>IC (aF xs.length ts.cnt) (ts.ev xs lK H E K)
 |_=>False
def ZT(ts:po X)(x:V)(lK:Loc)(H:AH)(E:AH->Prop)(K:Loc->AH->Prop):Prop:=match x with
 |.ref a=>lW H a (ZS ts lK H E K)
 |_=>False
theorem zK{n:Nat}{lJ:Env}{lK:Loc}{H:AH}{E:AH->Prop}{a:bp}{xs:List V}(ho:H a=aq (.tup xs)):Tr n lJ (unpackItems (.ref a) xs.length aI) lK H (λvs l H'=>oB vs xs/\l=lK/\H'=H) E:=by refine gz λS X A s ok st [oS:oz s]=>?_;obtain⟨vs,k,e,r,l⟩:=st.obj ho;have ll:=r.len;let ll:=bf▸ll;refine ll▸?_;refine wpAny_unpackItems_tuple ok.1.2.2.2 ⟨_,e,rfl,k,rfl⟩ λh' he=>⟨lK,H,st.keeps λb o q=>he b o (fu<|bQ q) q,r,rfl,rfl⟩
def ST.tp(ts:po X)(k:Nat)(p:Pos):ST X where
 ex:=.Tuple ts.qx k p
 ev:=λx lK H E K=>ZT ts x lK H E K
 ok:=λlJ lK H E K v x c o hv h=>by
  rw[arm_assign_Tuple];refine gx<|gy ?_;cases x<;>try exact a9 h
  .rename_i a;obtain rfl:=hv.nF;obtain⟨ob,ho,h⟩:=h;cases ob<;>try exact a9 h
   .rename_i xs;obtain⟨hc,h⟩:=IC.elim h
    .skip
     have hc:=bJ hc;unfold unpack;rw[ts.len,ts.plain,<-hc];refine gx<|gA<|gC (zK ho) λvs l H' jj=>?_;obtain⟨e1,e2,e3⟩:=jj;subst e2 e3;exact ts.ok lJ l H' E K vs xs c o e1 h
end
def SQ(N C:Loc->AH->Prop)(R:V->AH->Prop):Flow->Loc->AH->Prop:=λf l H=>match f with
 |.next=>N l H
 |.cont=>C l H
 |.brk=>False
 |.ret v=>∃x,VR v x/\R x H
structure SS(X:Cx)where
 st:gd
 ev:Loc->AH->(AH->Prop)->(Loc->AH->Prop)->(Loc->AH->Prop)->(V->AH->Prop)->Prop
 ok:∀lJ lK H E N C R,qK X->oW X lJ->ev lK H E N C R->Tr X.n lJ (exec st lJ) lK H (SQ N C R) E
structure lZ(X:Cx)where
 pP:List gd
 ev:Loc->AH->(AH->Prop)->(Loc->AH->Prop)->(Loc->AH->Prop)->(V->AH->Prop)->Prop
 ok:∀lJ lK H E N C R,qK X->oW X lJ->ev lK H E N C R->Tr X.n lJ (execs pP lJ) lK H (SQ N C R) E
theorem LN{X:Cx}{lJ:Env}{H:AH}{E:AH->Prop}(o:oW X lJ){is:List (Nat×Pos)}:∀{vs:List aZ}{xs:List V}{lK:Loc},is.all (λip=>match X.nw[ip.1]? with
   |some (_,.local)=>af
   |_=>ag)=af->oB vs xs->xs.length=is.length->
  Tr X.n lJ (assignInOrder (is.map<|(λn=>bindName lJ n)∘λip=>mV (X.nw.getD ip.1 (0,.free)).1) vs) lK H (λu l' H3=>l'=(is.zip xs).foldl (λlK ix=>xh lK ix.1.1 ix.2) lK/\H3=H) E:=by
 induction is with
 |nil=>
  intro vs xs lK _ h e;cases h with
  |nil=>exact gB ⟨rfl,rfl⟩
  |cons _ _=>exact(Nat.succ_ne_zero _ e).elim
 |cons ip is ih=>
  intro vs xs lK hk h e;cases h with
  |nil=>exact(Nat.succ_ne_zero _ e.symm).elim
  |@cons _ x _ xs hv qG=>
   rw[List.all_cons,cN]at hk;obtain⟨k1,k2⟩:=hk;rw[bS];show Tr _ _ (do bV _ (bindName lJ _ _);assignInOrder _ _) _ _ _ _;split at k1
   .rename_i w hw;have ew:(X.nw.getD ip.1 (0,.free)).1=w:=by refine bF bq▸?_;rw[hw];rfl
    refine Tr.D8 (gA<|AY (K:=λl H'=>l=xh lK ip.1 x/\H'=H) (i:=ip.1) (kd:=.local) (by show lJ.scope.names[ip.1]?=_;rw[o];show _=aq (mV (X.nw.getD ip.1 (0,.free)).1,_);rw[ew];exact nX hw) (.inl rfl) hv ⟨rfl,rfl⟩) λl H' jj=>?_;obtain⟨e1,e2⟩:=jj;subst e1 e2;exact ih k2 qG<|Nat.succ.inj e
   .cases k1
theorem Tr.OB{n:Nat}{lJ:Env}{lK:Loc}{H:AH}{E:AH->Prop}{α β γ:Type}{P:β->Loc->AH->Prop}{m:Sem α}{g:α->Sem γ}{f:γ->Sem β}(h:Tr n lJ ((m>>=g)>>=f) lK H P E):Tr n lJ (m>>=λa=>g a>>=f) lK H P E:=λS X A s ok st oS Γ p i cl=>by let:=h S X A s ok st Γ p i cl;rw[bP,bP]at this;rw[bP];refine cH _ Γ _ (λa p' s' q=>?_) (λ_ _ _ q=>q) p s this;rw[bP];exact q
section
variable{X:Cx}
def sqK(E:AH->Prop)(N C:Loc->AH->Prop)(R:V->AH->Prop)(r:lZ X)(lK:Loc)(H:AH):Prop:=r.ev lK H E N C R
def xpK(lK:Loc)(N:Loc->AH->Prop)(_:V)(H:AH):Prop:=N lK H
def ifK(E:AH->Prop)(N C:Loc->AH->Prop)(R:V->AH->Prop)(lK:Loc)(a b:lZ X)(w:Bool)(H:AH):Prop:=mO w (a.ev lK H E N C R)<|b.ev lK H E N C R
def ZU(lK:Loc)(E:AH->Prop)(op:Operator)(e:SE X)(Q:V->AH->Prop)(x:V)(H:AH):Prop:=e.ev lK H E<|WB op x Q
def aaW(X:Cx)(k:Nat)(K:AH->Prop)(x w:V)(H:AH):Prop:=ZR X k w K x H
def aaK(op:Operator)(e:SE X)(k:Nat)(lK:Loc)(E:AH->Prop)(N:Loc->AH->Prop)(x:V)(H:AH):Prop:=ZM X k (ZU lK E op e<|aaW X k (N lK) x) x H
def aiJ(op:Operator)(e:SE X)(lK:Loc)(E:AH->Prop)(N:Loc->AH->Prop)(x y:V)(H:AH):Prop:=S6 x (ZU lK E op e<|Og x y<|N lK) y H
def aiK(op:Operator)(i e:SE X)(lK:Loc)(E:AH->Prop)(N:Loc->AH->Prop)(x:V)(H:AH):Prop:=i.ev lK H E<|aiJ op e lK E N x
def swJ(is:List<|Nat×Pos)(lK:Loc)(N:Loc->AH->Prop)(H:AH)(o:AO):Prop:=match o with
 |.tup xs=>IC (aF xs.length is.length) (N ((is.reverse.zip xs.reverse).foldl (λlK ix=>xh lK ix.1.1 ix.2) lK) H)
 |_=>False
def swK(is:List<|Nat×Pos)(lK:Loc)(N:Loc->AH->Prop)(x:V)(H:AH):Prop:=match x with
 |.ref a=>lW H a (swJ is lK N H)
 |_=>False
end
section
variable{X:Cx}
def lZ.nil:lZ X where
 pP:=[]
 ev:=λlK H _ N _ _=>N lK H
 ok:=λlJ lK H E N C R c o h=>gB h
def lZ.cons(s:SS X)(r:lZ X):lZ X where
 pP:=s.st::r.pP
 ev:=λlK H E N C R=>s.ev lK H E (sqK E N C R r) C R
 ok:=λlJ lK H E N C R c o h=>by
  rw[arm_execs_cons];refine gx<|gC (s.ok lJ lK H E _ C R c o h) λf l H' q=>?_;cases f with
  |next=>exact r.ok lJ l H' E N C R c o q
  |cont=>exact gB q
  |brk=>exact q.elim
  |ret v=>exact gB q
def SS.as(t:ST X)(e:SE X)(p:Pos)(hs:(aJ 0 (kE e.ex)&&!(aF (kE e.ex) 3&&YA t.ex))=af)(hw:(!(aF (kE t.ex) 4&&aF (kE e.ex) 4))=af)(hp:aJ 0 (kE t.ex)=af):SS X where
 st:=.Assign [t.ex] e.ex p
 ev:=λlK H E N _ _=>e.ev lK H E<|UB lK E t N
 ok:=λlJ lK H E N C R c o h=>by rw[gg,ZJ hs,ZK hw,show assignEach [t.ex] lJ=_ from(Ny hp).as lJ []];refine gx<|gy<|gx<|gB ?_;rw[mT ("")];refine gF (e.ok lJ lK H E _ c o h) λv x H' hv q=>gx<|gB ?_;show Tr _ _ (do assign t.ex lJ v;dD Flow.next) _ _ _ _;exact Tr.D8 (t.ok lJ lK H' E _ v x c o hv q) λl H2 q=>gB q
def SS.sw(is:List<|Nat×Pos)(tk:Nat)(tp:Pos)(e:SE X)(p:Pos)
  (hs:(aJ 0 (kE e.ex)&&!aF (kE e.ex) 3)=af)
  (hw:∀lJ,oW X lJ->lJ.scope.kind=.function->swappedStores [.Tuple (is.map λip=>.Name (mV (X.nw.getD ip.1 (0,.free)).1) ip.2) tk tp] e.ex lJ=pure (aq<|is.map λip=>mV (X.nw.getD ip.1 (0,.free)).1))
  (hk:is.all (λip=>match X.nw[ip.1]? with
   |some (_,.local)=>af
   |_=>ag)=af):SS X where
 st:=.Assign [.Tuple (is.map λip=>.Name (mV (X.nw.getD ip.1 (0,.free)).1) ip.2) tk tp] e.ex p
 ev:=λlK H E N _ _=>e.ev lK H E<|swK is lK N
 ok:=λlJ lK H E N C R c o h=>by
  rw[gg,show swapsWithSole [_] e.ex p.line lJ=_ from ZI hs _ _ _];refine gx<|gy<|gx<|gB ?_;rw[mT ("")];refine gF (e.ok lJ lK H E _ c o h) λv x H' hv q=>?_;intro S X' A s ok st oS;rw[hw lJ o st.e.kind];revert S X' A s;show Tr _ _ (pure (aq _)>>=λw=>assignStores lJ v w _) _ _ _ _;refine gx<|gB ?_;cases x<;>try exact a9 q
  .rename_i a;obtain rfl:=hv.nF;obtain⟨ob,ho,q⟩:=q;cases ob<;>try exact a9 q
   .rename_i xs;obtain⟨hc,q⟩:=IC.elim q
    .skip
     have hc:=bJ hc;unfold assignStores;refine gx<|Tr.rule ?_;rw[cF,<-hc];refine gx<|gC (zK ho) λvs l H2 jj=>?_;obtain⟨e1,e2,e3⟩:=jj;subst e2 e3;clear hs hw h;refine gx (m:=assignInOrder _ _) (gC (P:=λu l' H3=>l'=(is.reverse.zip xs.reverse).foldl (λlK ix=>xh lK ix.1.1 ix.2) l/\H3=H2) ?_ λu l' H3⟨e4,e5⟩=>by subst e4 e5;exact gB q);rw[<-List.map_reverse,cO];exact LN o (by rw[List.all_reverse];exact hk) e1.reverse (by rw[dQ,dQ,hc])
def SS.xp(e:SE X)(p:Pos)(hs:(aJ 0 (kE e.ex)&&!aF (kE e.ex) 3)=af):SS X where
 st:=.Expr e.ex p
 ev:=λlK H E N _ _=>e.ev lK H E<|xpK lK N
 ok:=λlJ lK H E N C R c o h=>by
  intro S X' A s ok st oS;have hi:interactive lJ=ag:=by unfold interactive;rw[st.e.kind];rfl
  refine bF (exec_Expr lJ e.ex p hi<|ZI hs _ _ lJ)▸?_;revert S X' A s;show Tr _ _ (do ch p;let v<-eval e.ex lJ;dropValue e.ex p v) _ _ _ _;exact gx<|gy<|gF (e.ok lJ lK H E _ c o h) λv x H' hv q=>gz λS X' A s ok st=>wpAny_dropValue ⟨lK,H',st,q⟩
def SS.re(e:SE X)(p:Pos):SS X where
 st:=.Return (aq e.ex) p
 ev:=λlK H E _ _ R=>e.ev lK H E R
 ok:=λlJ lK H E N C R c o h=>by rw[arm_exec_Return];exact gx<|gy<|gF (e.ok lJ lK H E _ c o h) λv x H' hv q=>gB ⟨x,hv,q⟩
def SS.r0(p:Pos):SS X where
 st:=.Return aI p
 ev:=λlK H E _ _ R=>R .none H
 ok:=λlJ lK H E N C R c o h=>gx<|gy<|gB ⟨_,.none,h⟩
def SS.co(p:Pos):SS X where
 st:=.Continue p
 ev:=λlK H E _ C _=>C lK H
 ok:=λlJ lK H E N C R c o h=>gx<|gy<|gB h
def SS.qy(t:SE X)(a b:lZ X)(p:Pos):SS X where
 st:=.If t.ex a.pP b.pP p
 ev:=λlK H E N C R=>t.tv lK H E<|ifK E N C R lK a b
 ok:=λlJ lK H E N C R c o h=>by
  rw[arm_exec_If];refine gx<|gy<|gH (t.tok lJ lK H E _ c o h) λw H' q=>?_;cases w with
  |true=>exact a.ok lJ lK H' E N C R c o q.tt
  |false=>exact b.ok lJ lK H' E N C R c o q.ff
def SS.an(i:Nat)(np:Pos)(op:Operator)(e:SE X)(p:Pos):SS X where
 st:=.AugAssign (.Name (mV (X.nw.getD i (0,.free)).1) np) op e.ex p
 ev:=λlK H E N C R=>(SE.lo i np (X:=X)).ev lK H E (ZU lK E op e<|UB lK E (ST.nm i np (X:=X)) N)
 ok:=λlJ lK H E N C R c o h=>by
  rw[arm_exec_AugAssign];have h1:=(SE.lo i np (X:=X)).ok lJ lK H E _ c o h;have e1:eval (SE.lo i np (X:=X)).ex lJ=(do ch np;loadName lJ (mV (X.nw.getD i (0,.free)).1)):=by show eval (.Name _ _) lJ=_;rw[arm_eval_Name,qO];rfl
  rw[e1]at h1;refine Tr.OB<|gF h1 λold x H' hold q=>gF (gA<|e.ok lJ lK H' E _ c o q) λv y H2 hv q=>gx<|gy<|gF (gG<|Iw q hold hv) λw z H3 hw q=>?_;have h2:=(ST.nm i np (X:=X)).ok lJ lK H3 E N w z c o hw q;have e2:assign (ST.nm i np (X:=X)).ex lJ w=(do ch np;bindName lJ (mV (X.nw.getD i (0,.free)).1) w):=rfl;have h2:=e2▸h2;exact Tr.OB<|Tr.D8 h2 λl H4 q=>gB q
def SS.aa(b:SE X)(k:Nat)(tp:Pos)(op:Operator)(e:SE X)(p:Pos):SS X where
 st:=.AugAssign (.Attribute b.ex (mV k) tp) op e.ex p
 ev:=λlK H E N C R=>b.ev lK H E<|aaK op e k lK E N
 ok:=λlJ lK H E N C R c o h=>by rw[arm_exec_AugAssign_2];refine gx<|gy<|gF (b.ok lJ lK H E _ c o h) λov x H' OA q=>?_;refine gF (Q:=aaW X k (N lK) x) (gA<|gx<|gy<|gF (F8 c q OA) λold y H2 hold q=>gF (gA<|e.ok lJ lK H2 E _ c o q) λv z H3 hv q=>gx<|gy<|gG<|Iw q hold hv) λw u H4 hw q=>?_;refine gx<|gy<|gx<|gA<|gC (Tc c q OA hw) λ_ l H5 jj=>?_;obtain⟨e3,q⟩:=jj;subst e3;exact gx<|gz λS X' A s ok st=>eS ⟨l,H5,st,gB q⟩
def SS.as'(b i:SE X)(sp:Pos)(op:Operator)(e:SE X)(p:Pos)(hi:aJ 0 (kE i.ex)=af):SS X where
 st:=.AugAssign (.Subscript b.ex i.ex sp) op e.ex p
 ev:=λlK H E N C R=>b.ev lK H E<|aiK op i e lK E N
 ok:=λlJ lK H E N C R c o h=>by rw[arm_exec_AugAssign_3];refine gx<|gy<|gF (b.ok lJ lK H E _ c o h) λov x H' OA q=>gF (gA<|i.ok lJ lK H' E _ c o q) λiv y H2 YD q=>?_;refine gF (Q:=Og x y<|N lK) (gA<|gx<|gy<|gF (Rl q OA YD) λold u H3 hold q=>gF (gA<|e.ok lJ lK H3 E _ c o q) λv z H4 hv q=>gx<|gy<|gG<|Iw q hold hv) λw u H5 hw q=>?_;rw[(Ny hi).au];refine gx<|gy<|gx<|gA<|gC (Om q OA YD hw) λ_ l H6 jj=>?_;obtain⟨e3,q⟩:=jj;subst e3;exact gx<|gz λS X' A s ok st=>eS ⟨l,H6,st,gB q⟩
end
theorem II{P:List (bp×Obj)}{a:bp}{o:Obj}(h:P.lookup a=aq o):(a,o)∈P:=by
 induction P with
 |nil=>exact pB h
 |cons p r ih=>
  obtain⟨b,o'⟩:=p;rw[cf]at h;cases q:a==b with
  |true=>let h:=q▸h;obtain rfl:=qz h;rw[beq_iff_eq.mp q];exact .head _
  |false=>let h:=q▸h;exact .tail _ (ih h)
noncomputable def PX.add(X:PX)(P:List<|bp×Obj):PX:=λa=>(P.lookup a).or (X a)
theorem PX.tc{X:PX}{P:List (bp×Obj)}{a:bp}{o:Obj}(h:X a=aq o)(hP:∀p∈P,X p.1=aI):X.add P a=aq o:=by
 unfold PX.add;cases q:P.lookup a with
 |none=>exact h
 |some o'=>
  let:=hP _<|II q;let this:=h▸this;exact rQ this
theorem PX.xP{X:PX}{P:List (bp×Obj)}{a:bp}(h:X a=aI)(hP:∀p∈P,p.1≠a):X.add P a=aI:=by
 unfold PX.add;cases q:P.lookup a with
 |none=>exact h
 |some o'=>exact(hP _ (II q) rfl).elim
def Apart(S:rE)(X:PX)(lJ:Env)(H:AH)(a:bp):Prop:=¬Kn S X H a/\¬sQ lJ a
section
variable{S:rE}{X:PX}{lJ:Env}{lK:Loc}{H:AH}{h h':bL}{P:List (bp×Obj)}
theorem St.apart(st:St S X lJ lK H h){a:bp}(e:h.get? a=aI):Apart S X lJ H a:=⟨st.r.fresh e,λo=>by obtain⟨⟨ob,q⟩,_⟩:=st.e.Bj o;let q:=e▸q;exact pB q⟩
theorem St.UC(st:St S X lJ lK H h)(hP:∀p∈P,h.get? p.1=aq p.2/\Apart S X lJ H p.1):St S (X.add P) lJ lK H h:=by
 have no:∀p∈P,X p.1=aI:=λp m=>(gw (hP p m).2.1).2.1;have ne:∀a,Kn S X H a∨sQ lJ a->∀p∈P,p.1≠a:=λa k p m e=>by subst e;exact k.elim (hP p m).2.1 (hP p m).2.2
 refine⟨⟨⟨st.r.b.g,st.r.b.base,λa o e=>?_,st.r.b.obj,λa o e m=>⟨(st.r.b.dj a o e m).1,PX.xP (st.r.b.dj a o e m).2 (ne a<|.inl (.inr (.inr (.inl ⟨o,e⟩))))⟩⟩,λp hp=>?_⟩,{st.e with own:=?_,ns:=?_,cl:=?_,cx:=?_,Lz:=λw L e=>let⟨o,q⟩:=st.e.Lz w L e;⟨o,PX.tc q no⟩}⟩
 .unfold PX.add at e;cases q:P.lookup a with
  |none=>let e:=q▸e;exact st.r.b.sP a o e
  |some o'=>
   let e:=q▸e;obtain rfl:=qz e;exact(hP _<|II q).1
 .obtain⟨a1,a2,L,a3,a4,a5,a6,a7⟩:=st.r.f p hp;exact⟨a1,a2,L,a3,a4,a5,PX.xP a6<|ne L<|.inl (.inr (.inr (.inr ⟨p,hp,a3⟩))),a7⟩
 .exact⟨st.e.own.1,PX.xP st.e.own.2.1<|ne _<|.inr (.inl rfl),st.e.own.2.2⟩
 .obtain⟨m,n,r⟩:=st.e.ns;exact⟨m,n,r⟩
 .intro w x c e e';let z1:=(st.e.cl w x c e e').1;let z2:=(st.e.cl w x c e e').2.1;let z3:=(st.e.cl w x c e e').2.2.1;let z4:=(st.e.cl w x c e e').2.2.2;exact⟨z1,z2,PX.xP z3<|ne c<|.inr (.inr ⟨w,x,e,e'⟩),z4⟩
 .intro w x c e e';obtain⟨o,q⟩:=st.e.cx w x c e e';exact⟨o,PX.tc q no⟩
theorem St.OC(st:St S (X.add P) lJ lK H h)(no:∀p∈P,X p.1=aI)(cx:¬Own lJ->∀x c,lJ.scope.names.lookup x=aq .cell->lJ.cells.lookup x=aq c->∃o,X c=aq o)(Lz:¬Own lJ->∀L,lJ.frame=aq L->∃o,X L=aq o):St S X lJ lK H h:=by
 have lQ:∀a,X.add P a=aI->X a=aI:=λa e=>by
  cases q:X a with
  |none=>rfl
  |some o=>let e:=(PX.tc q no)▸e;exact rQ e
 refine⟨⟨⟨st.r.b.g,st.r.b.base,λa o e=>st.r.b.sP a o<|PX.tc e no,st.r.b.obj,λa o e m=>⟨(st.r.b.dj a o e m).1,lQ a (st.r.b.dj a o e m).2⟩⟩,λp hp=>?_⟩,{st.e with own:=?_,ns:=?_,cl:=?_,cx:=cx,Lz:=Lz}⟩
 .obtain⟨a1,a2,L,a3,a4,a5,a6,a7⟩:=st.r.f p hp;exact⟨a1,a2,L,a3,a4,a5,lQ L a6,a7⟩
 .exact⟨st.e.own.1,lQ _ st.e.own.2.1,st.e.own.2.2⟩
 .obtain⟨m,n,r⟩:=st.e.ns;exact⟨m,n,r⟩
 .intro w x c e e';let z1:=(st.e.cl w x c e e').1;let z2:=(st.e.cl w x c e e').2.1;let z3:=(st.e.cl w x c e e').2.2.1;let z4:=(st.e.cl w x c e e').2.2.2;exact⟨z1,z2,lQ c z3,z4⟩
theorem St.vw(st:St S (X.add P) lJ lK H h){a:bp}{o:Obj}(e:P.lookup a=aq o):h.get? a=aq o:=st.r.b.sP a o (by unfold PX.add;rw[e];rfl)
theorem St.tL{EN:Loc}{H':AH}(st:St S (X.add P) lJ EN H' h'){a:bp}{o:Obj}(e:P.lookup a=aq o)(ht:o.cls≠.type "tuple")(n:Apart S X lJ H a):Apart S X lJ H' a:=by
 have xa:X.add P a=aq o:=by unfold PX.add;rw[e];rfl
 let n1:=(gw n.1).1;let n2:=(gw n.1).2.1;let n3:=(gw n.1).2.2.1;let n4:=(gw n.1).2.2.2;refine⟨λk=>?_,n.2⟩;rcases k with⟨o',q⟩|⟨o',q⟩|⟨o',q⟩|⟨p,hp,q⟩
 .have q:=n1▸q;exact pB q
 .have q:=n2▸q;exact pB q
 .have hd:=st.r.b.dj a o' q;cases o' with
  |tup xs=>
   obtain⟨vs,k,e',_⟩:=st.r.b.obj a _ q;let e':=(st.vw e)▸e';obtain rfl:=qz e';exact ht rfl
  |_=>have:=(hd rfl).2;let this:=xa▸this;exact rQ this
 .exact n4 p hp q
end
open Mine renaming Apart→gJ
theorem IJ{b:Prop}{M:Model}{A:Around}{E:aZ->bh->Prop}{s:bh}{c:Code}{lJ:Env}{Q:Flow->bh->Prop}(n:sW c)
  (hc:oP b M A c (λr s'=>match r with|.ok f=>Q f s'|.error e=>cameBackBy M A lJ E e s') s):nV b M A (runOwn c lJ) Q E s:=by
 unfold runOwn;refine ry (pk (Q5 (E:=λe s'=>cameBackBy M A lJ E e s') n (show oP b M (A.mark aI) c _ s from hc) (by intro x;cases x)) (λ_ _ q=>q) λe s' q=>gs q)
section
variable{n:Nat}{lJ:Env}{E:AH->Prop}{S:rE}{X:PX}{A:Around}{s:bh}
theorem Gz{c:Code}{turn:Sem Fin}(ZV:G.M.den c=turn.onRaise (λx=>do noteFrame x lJ;theTreesLotGoes x))(hu:A.under c=A)(hq:c.quiet=af)(S1:sW c)(ok:DY n S lJ A)(J:Nat->bh->Prop)(R:Flow->bh->Prop)
  (OD:∀k s,J k s->nV (0<n) G.M A turn (λfin s'=>match fin with|.done f=>R f s'|.again c'=>(c'=c/\∃m,m<k/\J m s')∨(c'=.block [] lJ/\R .next s')) (λe s'=>0<n/\vi S X lJ E (sR lJ) e s') s)
  (k:Nat)(h:J k s):nV (0<n) G.M A (runOwn c lJ) R (λe s'=>0<n/\vi S X lJ E (sR lJ) e s') s:=by
 let main:∀k s,J k s->oP (0<n) G.M A c (λr s'=>match r with|.ok f=>R f s'|.error e=>0<n/\vi S X lJ E (AU lJ) e s') s:=by
  intro k
  induction k using Nat.strongRecOn with
  |ind k ih=>
   intro s h;refine oU ?_;rw[hu];rw[ZV];refine ry<|pk (OD k s h) (λfin s' q=>?_) λe s'⟨hn,q⟩=>?_
   .cases fin with
    |done f=>exact q
    |again c'=>
     rcases q with⟨rfl,m,hm,q⟩|⟨rfl,q⟩
     .exact⟨hq,S1,ih m hm s' q⟩
     .refine⟨rfl,trivial,oU ?_⟩;refine bF (dA (c:=.block [] lJ) rfl)▸?_;exact mi<|ry<|m9<|m9 q
   .let o1:=(ok.2 hn).1;let o2:=(ok.2 hn).2;refine mi<|gs<|bI (Bm (E':=λ_ _=>False) o1 o2 q) (λ_ s2 q2=>?_) λ_ _ q=>q.elim;exact gs<|wpAny_theTreesLotGoes ⟨hn,q2⟩
 refine IJ S1<|qe (main k s h) λr s' q=>?_;cases r with
 |ok f=>exact q
 |error e=>
  let hn:=q.1;let q:=q.2;let o1:=(ok.2 hn).1;let o2:=(ok.2 hn).2;let:=N1 (M:=G.M) (A:=A) o2 q;unfold cameBackBy at this⊢;exact bI this (λ_ s2 q2=>⟨hn,q2⟩) λe' s2 q2=>⟨hn,q2⟩
end
@[irreducible]noncomputable def F0(tv:Loc->AH->(AH->Prop)->(Bool->AH->Prop)->Prop)(bv:Loc->AH->(AH->Prop)->(Loc->AH->Prop)->(Loc->AH->Prop)->(V->AH->Prop)->Prop)
  (lK:Loc)(H:AH)(E:AH->Prop)(N:Loc->AH->Prop)(R:V->AH->Prop):Prop:=
 ∃I:Nat->Loc->AH->Prop,(∃k,I k lK H)/\∀k l h,I k l h->tv l h E λb h=>(b=af->bv l h E (λl h=>∃m,m<k/\I m l h) (λl h=>∃m,m<k/\I m l h) R)/\(b=ag->N l h)
theorem F0.intro{tv:Loc->AH->(AH->Prop)->(Bool->AH->Prop)->Prop}{bv:Loc->AH->(AH->Prop)->(Loc->AH->Prop)->(Loc->AH->Prop)->(V->AH->Prop)->Prop}
  {lK:Loc}{H:AH}{E:AH->Prop}{N:Loc->AH->Prop}{R:V->AH->Prop}(I:Nat->Loc->AH->Prop)(k:Nat)(h0:I k lK H)
  (h:∀k l h,I k l h->tv l h E λb h=>(b=af->bv l h E (λl h=>∃m,m<k/\I m l h) (λl h=>∃m,m<k/\I m l h) R)/\(b=ag->N l h)):F0 tv bv lK H E N R:=by unfold F0;exact⟨I,⟨k,h0⟩,h⟩
theorem F0.elim{tv:Loc->AH->(AH->Prop)->(Bool->AH->Prop)->Prop}{bv:Loc->AH->(AH->Prop)->(Loc->AH->Prop)->(Loc->AH->Prop)->(V->AH->Prop)->Prop}
  {lK:Loc}{H:AH}{E:AH->Prop}{N:Loc->AH->Prop}{R:V->AH->Prop}(h:F0 tv bv lK H E N R):
  ∃I:Nat->Loc->AH->Prop,(∃k,I k lK H)/\∀k l h,I k l h->tv l h E λb h=>(b=af->bv l h E (λl h=>∃m,m<k/\I m l h) (λl h=>∃m,m<k/\I m l h) R)/\(b=ag->N l h):=by unfold F0 at h;exact h
section
variable{X:Cx}
def SS.wh(t:SE X)(b:lZ X)(p:Pos):SS X where
 st:=.While t.ex b.pP [] p
 ev:=λlK H E N C R=>F0 t.tv b.ev lK H E N R
 ok:=λlJ lK H E N C R c o h=>by
  rw[arm_exec_While];refine gx<|gy ?_;obtain⟨I,⟨k,h0⟩,hI⟩:=F0.elim h;intro S X' A s ok st oS;refine Gz (c:=.whileLoop t.ex b.pP [] lJ) (turn:=whileTurn t.ex b.pP [] lJ) rfl (dA rfl) rfl trivial ok (λk s=>PQ S X' lJ s λl h=>I k l h) _ (λk s jj=>?_) k ⟨lK,H,st,h0⟩;obtain@⟨l,h,D6,st,q⟩:=jj;have T:Tr X.n lJ (whileTurn t.ex b.pP [] lJ) l h (λfin l' h'=>match fin with|.done f=>SQ N C R f l' h'|.again c'=>c'=.whileLoop t.ex b.pP [] lJ/\∃m,m<k/\I m l' h') E:=by
   simp only[whileTurn];refine gH (t.tok lJ l h E _ c o<|hI k l h q) λw h1 jj=>?_;obtain⟨q1,q2⟩:=jj;cases w with
   |false=>
    rw[mT ("")];exact gx (gB<|gB<|q2 rfl)
   |true=>
    rw[mZ rfl];refine gx<|gC (b.ok lJ l h1 E _ _ _ c o<|q1 rfl) λf l2 h2 z=>?_;cases f with
    |next=>exact gB ⟨rfl,z⟩
    |cont=>exact gB ⟨rfl,z⟩
    |brk=>exact z.elim
    |ret v=>exact gB z
  refine pk (T S X' A s ok st) (λfin s' jj=>?_) λ_ _ z=>z;obtain@⟨l',h',OE,nA,z⟩:=jj;cases fin with
  |done f=>exact⟨l',h',nA,z⟩
  |again c'=>obtain⟨e1,m,hm,z⟩:=z;exact .inl ⟨e1,m,hm,⟨l',h',nA,z⟩⟩
end
abbrev UD:=Loc->AH->(AH->Prop)->(Loc->AH->Prop)->(Loc->AH->Prop)->(V->AH->Prop)->Prop
def UE(b:UD)(E:AH->Prop)(K:Loc->AH->Prop)(R:V->AH->Prop)(l:Loc)(h:AH):Prop:=b l h E K K R
def fK(S:rE)(X:PX)(lJ:Env)(J:Nat->Loc->AH->bL->Prop)(k:Nat)(P:List<|bp×Obj)(l:Loc)(h:AH):Prop:=∀h4,St S (X.add P) lJ l h h4->∃m,m<k/\J m l h h4
inductive FV{C:Cx}(t:ST C)(b:lZ C)(S:rE)(X:PX)(lJ:Env)(E:AH->Prop)(R:V->AH->Prop)(J:Nat->Loc->AH->bL->Prop)(k:Nat)(v:aZ)(l:Loc)(s:bh):Prop where
 |mk(sm:oz s)(x:V)(h':AH)(P:List<|bp×Obj)(hv:VR v x)(st:St S X lJ l h' s.heap)(hP:∀p∈P,s.heap.get? p.1=aq p.2/\gJ S X lJ h' p.1)(q:t.ev x l h' E<|UE b.ev E (fK S X lJ J k P) R)
inductive FE(S:rE)(X:PX)(lJ:Env)(N:Loc->AH->Prop)(l:Loc)(h:AH)(s:bh):Prop where
 |mk(sm:oz s)(st:St S X lJ l h s.heap)(n:N l h)
def FN{C:Cx}(A:Around)(it:aZ)(t:ST C)(b:lZ C)(S:rE)(X:PX)(lJ:Env)(E:AH->Prop)(N:Loc->AH->Prop)(R:V->AH->Prop)(J:Nat->Loc->AH->bL->Prop)(k:Nat)(l:Loc)(h:AH)(r:Option aZ)(s:bh):Prop:=match r with
 |none=>FE S X lJ N l h s
 |some v=>wpAny G.M A (letOwnedTupleGo t.ex it v) (λ_ s2=>FV t b S X lJ E R J k v l s2) (λ_ _=>False) s
section
variable{X:Cx}{lJ:Env}{E:AH->Prop}{S:rE}{X':PX}{A:Around}{s:bh}
theorem AZ(t:ST X)(b:lZ X){it:aZ}{N:Loc->AH->Prop}{R:V->AH->Prop}{C':Loc->AH->Prop}(c:qK X)(o:oW X lJ)(ok:DY X.n S lJ A)(J:Nat->Loc->AH->bL->Prop)
  (Gu:∀k l h s,St S X' lJ l h s.heap->J k l h s.heap->[oz s]->wpAny G.M A (pyNext it) (FN A it t b S X' lJ E N R J k l h) (λ_ _=>False) s)
  {k:Nat}{l:Loc}{h:AH}(st:St S X' lJ l h s.heap)(h0:J k l h s.heap)[oS:oz s]:
  nV (0<X.n) G.M A (runOwn (.forLoop t.ex it b.pP [] lJ) lJ) (λf s'=>PQ S X' lJ s' λl' h'=>SQ N C' R f l' h') (Rd X.n S X' lJ E) s:=by
 refine Gz (c:=.forLoop t.ex it b.pP [] lJ) (turn:=forTurn t.ex it b.pP [] lJ) rfl (dA rfl) rfl trivial ok (λk s=>PQ S X' lJ s λl h=>J k l h s.heap) _ (λk s jj=>?_) k ⟨l,h,st,h0⟩;obtain@⟨l,h,D6,st,q⟩:=jj;unfold forTurn;refine mi<|gs<|cp ?_;refine mi<|ry<|gs<|bI (Gu k l h s st q) (λr s1 q=>?_) λ_ _ q=>q.elim;cases r with
 |none=>let OE:=q.1;let q1:=q.2;let q2:=q.3;exact m9 (.inr ⟨rfl,⟨l,h,q1,q2⟩⟩)
 |some v=>
  refine mi<|gs<|bI q (λ_ s2 jj=>?_) λ_ _ q=>q.elim;obtain⟨OE,x,h',Pr,hv,pz,hP,q⟩:=jj;have no:∀p∈Pr,X' p.1=aI:=λp m=>(gw (hP p m).2.1).2.1;let T:Tr X.n lJ (assign t.ex lJ v>>=λ_=>execs b.pP lJ) l h' (SQ (fK S X' lJ J k Pr) (fK S X' lJ J k Pr) R) E:=
   Tr.D8 (t.ok lJ l h' E _ v x c o hv q) λl2 h2 q=>b.ok lJ l2 h2 E _ _ R c o q
  let z:=T S (X'.add Pr) A s2 ok<|pz.UC hP;have lQ:∀{l3 h3 h4},St S (X'.add Pr) lJ l3 h3 h4->St S X' lJ l3 h3 h4:=λsF=>sF.OC no pz.e.cx pz.e.Lz;have exc:∀e s',Rd X.n S (X'.add Pr) lJ E e s'->Rd X.n S X' lJ E e s':=by
   rintro e s' ⟨hn,⟨ae,H',B,a1,a2,a3,⟨a4,a4',ZW⟩,a5,a6,a7,a8⟩⟩;have bk:∀a,X'.add Pr a=aI->X' a=aI:=λa e=>by
    cases q:X' a with
    |none=>rfl
    |some o=>rw[PX.tc q no]at e;exact rQ e
   refine⟨hn,⟨ae,H',B,a1,⟨a2.g,a2.base,λa o e=>a2.sP a o<|PX.tc e no,a2.obj,λa o e m=>⟨(a2.dj a o e m).1,bk a (a2.dj a o e m).2⟩⟩,λp hp=>?_,⟨a4,bk _ a4',ZW⟩,a5,a6,a7,a8⟩⟩;obtain⟨b1,b2,L,b3,b4,b5,b6,b7⟩:=a3 p hp;exact⟨b1,b2,L,b3,b4,b5,bk L b6,b7⟩
  let z2:nV (0<X.n) G.M A (assign t.ex lJ v>>=λ_=>execs b.pP lJ>>=λf=>match f with
    |.next|.cont=>again (.forLoop t.ex it b.pP [] lJ)
    |.brk=>pure (.done .next)
    |.ret v=>pure<|.done (.ret v)) (λfin s'=>match fin with|.done f=>PQ S X' lJ s' λl' h'=>SQ N C' R f l' h'|.again c'=>(c'=.forLoop t.ex it b.pP [] lJ/\∃m,m<k/\PQ S X' lJ s' λl h=>J m l h s'.heap)∨(c'=.block [] lJ/\PQ S X' lJ s' λl' h'=>SQ N C' R .next l' h')) (Rd X.n S X' lJ E) s2:=by
   intro Γ p hΓ cl;let z':=z Γ p hΓ cl;rw[bP]at z'⊢;refine cH _ Γ _ (λ_ p' s3 q=>?_) (λe p' s3 q=>exc e s3 q) p s2 z';rw[bP];refine cH _ Γ _ (λf p' s4 jj=>?_) (λe p' s3 q=>exc e s3 q) p' s3 q;obtain@⟨l3,h3,UF,sF,q⟩:=jj;cases f with
   |next=>obtain⟨m,hm,q⟩:=q s4.heap sF;exact .inl ⟨rfl,m,hm,⟨l3,h3,lQ sF,q⟩⟩
   |cont=>obtain⟨m,hm,q⟩:=q s4.heap sF;exact .inl ⟨rfl,m,hm,⟨l3,h3,lQ sF,q⟩⟩
   |brk=>exact q.elim
   |ret v=>exact⟨l3,h3,lQ sF,q⟩
  exact z2
end
abbrev NA:=V->Loc->AH->(AH->Prop)->(Loc->AH->Prop)->Prop
inductive sG(t:NA)(b:UD)(a:bp)(o:AO)(xs:List V)(lK:Loc)(H:AH)(E:AH->Prop)(N:Loc->AH->Prop)(R:V->AH->Prop):Prop where
 |intro(I:Nat->Loc->AH->Prop)(h0:I 0 lK H)(h1:∀i l h,I i l h->h a=aq o)(h2:∀i l h x K,xs[i]?=aq x->I i l h->(∀l h,I (i+1) l h->K l h)->t x l h E (UE b E K R))(h3:∀l h,I xs.length l h->N l h)
theorem E2{prog:Program}{w:World}{A:Around}{E:aZ->bh->Prop}{s:bh}{tgt:Expr}{it:bp}{v:aZ}{o:Obj}{T:String}{Q:Unit->bh->Prop}(e:s.heap.get? it=aq o)(hc:o.cls=.type T)
  (hT:["enumerate","zip","dict_itemiterator","dict_reverseitemiterator","odict_iterator","itertools.zip_longest","itertools.pairwise"].contains T=ag)(h:Q () s):wpAny (model prog w) A (letOwnedTupleGo tgt (.ref it) v) Q E s:=by
 have main:wpAny (model prog w) A (letOwnedTupleGo (.Tuple [] 0 ⟨0,0,0,0⟩) (.ref it) v) Q E s:=by
  cases v<;>try exact bg h
  refine aY<|eg e ?_;rw[hc];generalize o.data=od;cases od with
  |fields vs=>
   show wpAny _ _ (if(_&&_)=af then _ else _) _ _ _;rw[hT,Bool.false_and,mT ("")];exact bg h
  |_=>exact bg h
 cases tgt<;>first|exact bg h|exact main
inductive FI(S:rE)(X:PX)(lJ:Env)(I:Nat->Loc->AH->Prop)(n:Nat)(w:Nat->Prop)(it:bp)(k:Nat)(l:Loc)(h:AH):Prop where
 |mk(i:Nat)(e:k+i=n)(q:I i l h)(w:w i)(ap:gJ S X lJ h it)
section
variable{X:Cx}
theorem Rx{t:ST X}{b:lZ X}{a:bp}{xs:List V}{lJ:Env}{lK:Loc}{H:AH}{E:AH->Prop}{N C:Loc->AH->Prop}{R:V->AH->Prop}(c:qK X)(o:oW X lJ)(ho:H a=aq (.list xs))(q:sG t.ev b.ev a (.list xs) xs lK H E N R){tk:Expr}:
  Tr X.n lJ (do runOwn (.forLoop t.ex (<-bV [.ref a] (pyIter<|.ref a)) b.pP [] lJ) lJ) lK H (SQ N C R) E:=by
 obtain⟨I,h0,h1,h2,h3⟩:=q;intro S X' A s ok st oS;obtain⟨vs,k,e1,r,l⟩:=st.obj ho;refine mi<|nN<|gs<|wpAny_pyIter_list e1.isList ?_;let wj:=st.push {cls:=.type "list_iterator",data:=.fields #[.ref a,.int 0 0]};let ap:gJ S X' lJ H s.heap.objs.size:=st.apart<|mL _;refine AZ t b c o (s:={s with heap:=_}) ok (λk l h hp=>FI S X' lJ I xs.length (λi=>hp.IsListIter s.heap.objs.size a i) s.heap.objs.size k l h) (λk l h s1 pz jj [D6:oz s1]=>?_) (k:=xs.length) wj ⟨0,rfl,h0,⟨_,bE _ rfl,rfl,rfl⟩,ap⟩;obtain⟨i,hk,hI,hit,BE⟩:=jj;let ha:=h1 i l h hI;obtain⟨vs,kk,e1,r,_⟩:=pz.obj ha;let ll:=r.len;have ll:=bf▸ll;have keep:∀{h':bL},eM s.heap.objs.size s1.heap h'->St S X' lJ l h h':=λhe=>by
  have kn:∀b,(Kn S X' h b∨sQ lJ b)->b≠s.heap.objs.size:=λb q e=>by subst e;exact q.elim BE.1 BE.2
  refine⟨pz.r.keep λb ob q e=>he b ob (kn b<|.inl q) e,pz.e.keep λb ob q e=>he b ob ?_ e⟩;rcases q with q|q
  .exact kn b<|.inr q
  .exact kn b<|.inl (.inr (.inl q))
 by_cases lt:i<xs.length
 .obtain⟨x,hx⟩:∃x,xs[i]?=aq x:=⟨_,bU lt⟩;obtain⟨v,F1,F2⟩:=r.get hx;refine fy hit e1.isList (by simpa using F1) λh' yN hs=>?_;let sF:=keep hs.extBut;refine gu λP9 mG=>?_;obtain⟨oi,g1,g2,g3⟩:=yN;refine mG ?_;refine E2 (T:="list_iterator") g1 g2 ("") ⟨inferInstance,x,h,[(s.heap.objs.size,oi)],F2,sF,λp hp=>?_,?_⟩
  .rcases aA.mp hp with rfl|hp
   .exact⟨g1,BE⟩
   .cases hp
  .refine h2 i l h x _ hx hI λl3 h3 q h4 rV=>⟨k-1,(">xZzMR8jc$H8dK*u#79+?'#",hk,lt,rfl),⟨i+1,("1ZtYqL&}F)Hqb;xPrxzu6C?#36]*9'#",hk,lt,rfl),q,⟨oi,rV.vw (by simp),g2,g3⟩,rV.tL (o:=oi) (by simp) (by rw[g2];decide) BE⟩⟩
 .have:i=xs.length:=("'UouxHPykbg#4qZH6&#",hk,lt);subst this;exact fL ok.1.2.2.2 hit e1.isList (by rw[bY,ll];exact dg _) λh' he=>⟨inferInstance,keep he,h3 l h hI⟩
def SS.fl(t:ST X)(e:SE X)(b:lZ X)(p:Pos)(hf:aJ 0 (kE e.ex)=af):SS X where
 st:=.For t.ex e.ex b.pP [] p
 ev:=λlK H E N C R=>e.ev lK H E λx H=>uu (λa=>lW H a<|wV λxs=>sG t.ev b.ev a (.list xs) xs lK H E N R) x
 ok:=λlJ lK H E N C R c o h=>by rw[fA];refine gx<|gy<|gF (e.ok lJ lK H E _ c o h) λv x H' hv q=>?_;rw[(Ny hf).fo];refine gx<|gB<|gx<|gy ?_;obtain⟨a,rfl,q⟩:=uu.elim q;obtain rfl:=hv.nF;obtain⟨ob,ho,q⟩:=q;obtain⟨xs,rfl,q⟩:=wV.elim q;exact Rx c o ho q (tk:=e.ex)
end
section
variable{n:Nat}{lJ:Env}{lK:Loc}{H:AH}{E:AH->Prop}{β:Type}{P:β->Loc->AH->Prop}
theorem Tr.D9{m:Sem aZ}{g:aZ->Sem β}(h:Tr n lJ (m>>=g) lK H P E):Tr n lJ ((m>>=λr=>bV [r] PySem.point>>=λ_=>dD r)>>=g) lK H P E:=λS X A s ok st oS Γ p i cl=>by let:=h S X A s ok st Γ p i cl;rw[bP]at this;rw[bP,bP];refine cH _ Γ _ (λa p' s' q=>?_) (λ_ _ _ q=>q) p s this;rw[bP,fP];exact q
theorem C7{f:aZ}{pos:Pos}{ts:List (Sem aZ)}{K:List V->AH->Prop}{g:aZ->Sem β}(hk:(∃id,f=.builtin id)∨(∃T,f=.type T))(ha:Ul n lJ lK E ts H K)
  (h:∀xs vs H',oB vs xs->K xs H'->Tr n lJ (cq f vs>>=g) lK H' P E):Tr n lJ (callWith pos f [] (ts.map λt=>(ag,t)) []>>=g) lK H P E:=by
 unfold callWith;refine Tr.assoc<|gx<|gA<|gC (vv ha) λa l H'⟨e,WI,xs,qG,q⟩=>Tr.assoc<|gx<|gy ?_;subst e;have Um:((ts.map λt=>(ag,t)).any (·.1)||([]:List<|Option Str×Sem aZ).any (·.1.isNone))=ag:=by simp
 let call:=h xs a.pos H' qG q;rw[WI];rw[Um];rcases hk with⟨id,rfl⟩|⟨T,rfl⟩
 .exact Tr.assoc<|gx<|gB<|Tr.D9 call
 .exact Tr.assoc<|gx<|gB<|Tr.D9 call
end
theorem boot_range:bootBuiltins (mV 69)=aq (.type "range"):=by decide+kernel
theorem Ea:bootBuiltins (mV 119)=aq (.type "enumerate"):=by decide+kernel
theorem boot_sorted:bootBuiltins (mV 83)=aq (.builtin "sorted"):=by decide+kernel
section
variable{X:Cx}{lJ:Env}{lK:Loc}{H:AH}{E:AH->Prop}{β:Type}{P:β->Loc->AH->Prop}
theorem xQ{i k:Nat}{es:oa X}{pn p:Pos}{f:aZ}{K:List V->AH->Prop}{g:aZ->Sem β}(c:qK X)(o:oW X lJ)(hi:X.nw[i]?=aq (k,.globalImplicit))(hk:k∈[11,13,15,16,22,36,58,69,83,116,119,131])(hb:bootBuiltins (mV k)=aq f)(hf:(∃id,f=.builtin id)∨(∃T,f=.type T))
  (ha:es.ev lK H E K)(h:∀xs vs H',oB vs xs->K xs H'->Tr X.n lJ (cq f vs>>=g) lK H' P E):
  Tr X.n lJ (eval (.Call (.Name (mV (X.nw.getD i (0,.free)).1) pn) es.qx [] p) lJ>>=g) lK H P E:=by
 let ew:(X.nw.getD i (0,.free)).1=k:=by refine bF bq▸?_;rw[hi];rfl
 rw[qP];rw[ew];exact Tr.assoc<|AX c o hi hk hb<|C7 hf (es.ok lJ lK H E K c o ha) h
end
inductive qD(t:NA)(b:UD)(lo:Int)(m:Nat)(lK:Loc)(H:AH)(E:AH->Prop)(N:Loc->AH->Prop)(R:V->AH->Prop):Prop where
 |intro(I:Nat->Loc->AH->Prop)(h0:I 0 lK H)(h2:∀i l h K,i<m->I i l h->(∀l h,I (i+1) l h->K l h)->t (.int (lo+i)) l h E (UE b E K R))(h3:∀l h,I m l h->N l h)
def E3(x l:Int):Obj:={cls:=.type "range_iterator",data:=.fields #[rawInt x,rawInt l,rawInt 1]}
def Td(K:Int->Int->Prop)(b:Int):Prop:=mh (-1000000000000<=b/\b<=1000000000000)<|K 0 b
def Te(K:Int->Int->Prop)(x y:V):Prop:=rJ (λa=>rJ (λb=>mh ((-1000000000000<=a/\a<=1000000000000)/\ -1000000000000<=b/\b<=1000000000000)<|K a b) y) x
def WW(K:Int->Int->Prop)(x:V)(r:List V):Prop:=match r with
 |[]=>rJ (Td K) x
 |y::r=>match r with
  |[]=>Te K x y
  |_::_=>False
def GA(xs:List V)(K:Int->Int->Prop):Prop:=match xs with
 |[]=>False
 |x::r=>WW K x r
theorem GA.elim{xs:List V}{K:Int->Int->Prop}(h:GA xs K):(∃b,xs=[.int b]/\Td K b)∨∃x y,xs=[x,y]/\Te K x y:=by
 cases xs with
 |nil=>exact a9 h
 |cons x r=>
  cases r with
  |nil=>obtain⟨b,rfl,h⟩:=gE h;exact .inl ⟨b,rfl,h⟩
  |cons y r=>
   cases r with
   |nil=>exact .inr ⟨x,y,rfl,h⟩
   |cons _ _=>exact a9 h
section
variable{X:Cx}
theorem Ry{t:ST X}{b:lZ X}{lo hi:Int}{it:bp}{lJ:Env}{lK:Loc}{H:AH}{E:AH->Prop}{N C:Loc->AH->Prop}{R:V->AH->Prop}(c:qK X)(o:oW X lJ)(q:qD t.ev b.ev lo (hi-lo).toNat lK H E N R)
  {S:rE}{X':PX}{A:Around}{s:bh}(ok:DY X.n S lJ A)(st:St S X' lJ lK H s.heap)(ap:gJ S X' lJ H it)(hit:IsRangeIter s.heap it lo ((hi-lo).toNat:Nat) 1)[oS:oz s]:
  nV (0<X.n) G.M A (runOwn (.forLoop t.ex (.ref it) b.pP [] lJ) lJ) (λf s'=>PQ S X' lJ s' λl' h'=>SQ N C R f l' h') (Rd X.n S X' lJ E) s:=by
 obtain⟨I,h0,h2,h3⟩:=q;refine AZ t b c o ok (λk l h hp=>FI S X' lJ I (hi-lo).toNat (λi=>IsRangeIter hp it (lo+i) (((hi-lo).toNat:Nat)-i:Int) 1) it k l h) (λk l h s1 pz jj [D6:oz s1]=>?_) (k:=(hi-lo).toNat) st ⟨0,rfl,h0,by simpa using hit,ap⟩;obtain⟨i,hk,hI,hit,BE⟩:=jj;have keep:∀{h':bL},eM it s1.heap h'->St S X' lJ l h h':=λhe=>by
  have kn:∀b,(Kn S X' h b∨sQ lJ b)->b≠it:=λb q e=>by subst e;exact q.elim BE.1 BE.2
  refine⟨pz.r.keep λb ob q e=>he b ob (kn b<|.inl q) e,pz.e.keep λb ob q e=>he b ob ?_ e⟩;rcases q with q|q
  .exact kn b<|.inr q
  .exact kn b<|.inl (.inr (.inl q))
 by_cases lt:i<(hi-lo).toNat
 .refine fg hit ("{j>/toyt4ww%#",lt) λh' yN hs=>?_;let sF:=keep hs.extBut;let g1:h'.get? it=aq (E3 (lo+i+1) (((hi-lo).toNat:Nat)-i-1:Int)):=yN;refine E2 (T:="range_iterator") g1 rfl ("") ⟨inferInstance,.int (lo+i),h,[(it,E3 (lo+i+1) (((hi-lo).toNat:Nat)-i-1:Int))],.int ..,sF,λp hp=>?_,?_⟩
  .rcases aA.mp hp with rfl|hp
   .exact⟨g1,BE⟩
   .cases hp
  .refine h2 i l h _ lt hI λl3 h3 q h4 rV=>⟨k-1,(">xZzMR8jc$H8dK*u#79+?'#",hk,lt,rfl),i+1,("1ZtYqL&}F)Hqb;xPrxzu6C?#36]*9'#",hk,lt,rfl),q,?_,rV.tL (a:=it) (o:=E3 (lo+i+1) (((hi-lo).toNat:Nat)-i-1:Int)) (by simp) (by show cP "range_iterator"≠cP "tuple";decide) BE⟩;let z:h4.get? it=aq (E3 (lo+i+1) (((hi-lo).toNat:Nat)-i-1:Int)):=rV.vw (by simp);let e1:lo+(i:Int)+1=lo+((i+1:Nat):Int):=(">o/S-J7lB.^=BY$$");let e2:(((hi-lo).toNat:Nat):Int)-i-1=(((hi-lo).toNat:Nat):Int)-((i+1:Nat):Int):=("K:~NL)P7Wx,^kDw%#");refine e1▸?_;refine e2▸?_;exact z
 .have:i=(hi-lo).toNat:=("'UouxHPykbg#4qZH6&#",hk,lt);subst this;exact fB ok.1.2.2.2 hit ("096io}.6$#") λh' he=>⟨inferInstance,keep he,h3 l h hI⟩
def SS.fr(t:ST X)(i:Nat)(es:oa X)(pn pi:Pos)(b:lZ X)(p:Pos):SS X where
 st:=.For t.ex (.Call (.Name (mV (X.nw.getD i (0,.free)).1) pn) es.qx [] pi) b.pP [] p
 ev:=λlK H E N C R=>FZ 69 X.nw[i]? (es.ev lK H E λxs H=>GA xs λlo hi=>qD t.ev b.ev lo (hi-lo).toNat lK H E N R)
 ok:=λlJ lK H E N C R c o h=>by
  obtain⟨hi,h⟩:=FZ.elim h
  .rw[fA];refine gx<|gy<|xQ c o hi ("") boot_range (.inr ⟨_,rfl⟩) h λxs vs H' qG q=>?_;have fin:∀(a b':Int)(tk NB LO:Tok)(S:rE)(X':PX)(A:Around)(s:bh)(r:bp),(-1000000000000<=a/\a<=1000000000000)->(-1000000000000<=b'/\b'<=1000000000000)->qD t.ev b.ev a (b'-a).toNat lK H' E N R->DY X.n S lJ A->St S X' lJ lK H' s.heap->IsRange s.heap r a b' 1 tk NB LO->oz s->
     nV (0<X.n) G.M A (do let x<-foldedSetIterable (.Call (.Name (mV (X.nw.getD i (0,.free)).1) pn) es.qx [] pi) lJ (.ref r);ch (Expr.pos<|.Call (.Name (mV (X.nw.getD i (0,.free)).1) pn) es.qx [] pi);runOwn (.forLoop t.ex (<-bV [x] (pyIter x)) b.pP [] lJ) lJ) (λf s'=>PQ S X' lJ s' λl' h'=>SQ N C R f l' h') (Rd X.n S X' lJ E) s:=by
    intro a b' tk NB LO S X' A s r ha hb q ok st hr D6;refine mi<|m9<|mi<|gs<|cp ?_;refine mi<|nN<|gs<|eE hr (small_one ("$Gm.jzC^svq7CFDu[tUX[go}_9PSwDg,BN^#/#$",ha) ("4V$FR+Hfj)aq6YC8YdGTl7]fXz)ucNgeZ.h{#$",ha) ("$Gm.jzC^svq7CFDu[tUX[go}_9PSwDg,BN^#/#$",hb) ("4V$FR+Hfj)aq6YC8YdGTl7]fXz)ucNgeZ.h{#$",hb)) ?_;refine Ry (s:={s with heap:=_}) c o q ok (st.push _) (st.apart<|mL _) ?_;have e:Builtin.Range.rangeSize a b' 1=(((b'-a).toNat:Nat):Int):=by rw[rangeSize_one];split<;>omega
    rw[e];exact bE _ rfl
   obtain⟨_,rfl,q⟩|⟨x,y,rfl,q⟩:=GA.elim q
   .obtain⟨v,rfl,hv⟩:=qG.one;obtain⟨tk,rfl⟩:=hv.int_inv;obtain⟨hb,q⟩:=gD q;intro S X' A s ok st oS;exact mi<|gs<|call_range_1<|fin 0 _ _ _ _ S X' A {s with heap:=_,toks:=_} _ ("y5'd2bca1_'kK4n3_SG4>j_##") hb q ok (st.push _) (eO ..) inferInstance
   .obtain⟨v,u,rfl,hv,hu⟩:=qG.two;obtain⟨_,rfl,q⟩:=gE q;obtain⟨_,rfl,q⟩:=gE q;obtain⟨tk,rfl⟩:=hv.int_inv;obtain⟨NB,rfl⟩:=hu.int_inv;obtain⟨⟨ha,hb⟩,q⟩:=gD q;intro S X' A s ok st oS;exact mi<|gs<|call_range_2<|fin _ _ _ _ _ S X' A {s with heap:=_,toks:=_} _ ha hb q ok (st.push _) (eO ..) inferInstance
end
section
variable{S:rE}{X:PX}{lJ:Env}{lK:Loc}{H:AH}{h h':bL}
theorem St.wX(st:St S X lJ lK H h)(ks:List bp)(ha:∀a∈ks,gJ S X lJ H a)(k:∀b o,b∉ks->h.get? b=aq o->h'.get? b=aq o):St S X lJ lK H h':=by
 have kn:∀b,(Kn S X H b∨sQ lJ b)->b∉ks:=λb q m=>q.elim (ha b m).1 (ha b m).2;refine⟨st.r.keep λb ob q e=>k b ob (kn b<|.inl q) e,st.e.keep λb ob q e=>k b ob ?_ e⟩;rcases q with q|q
 .exact kn b<|.inr q
 .exact kn b<|.inl (.inr (.inl q))
theorem St.tell(st:St S X lJ lK H h){a:bp}{o:AO}(ap:gJ S X lJ H a)(e:Enc h a o):St S X lJ lK (upd H a o) h:=by let n1:=(gw ap.1).1;let n2:=(gw ap.1).2.1;let n3:=(gw ap.1).2.2.1;let n4:=(gw ap.1).2.2.2;exact⟨st.r.put (λ_ _ _ q=>q) e ⟨n1,n2,n4⟩,st.e.N0 ap.2⟩
theorem Apart.upd{a b:bp}{o:AO}(ap:gJ S X lJ H a)(ne:a≠b):gJ S X lJ (Mine.upd H b o) a:=by
 refine⟨λk=>?_,ap.2⟩;rcases k with q|q|⟨o',q⟩|q
 .exact ap.1<|.inl q
 .exact ap.1<|.inr (.inl q)
 .let q:=(lV ne)▸q;exact ap.1<|.inr (.inr (.inl ⟨o',q⟩))
 .exact ap.1<|.inr (.inr (.inr q))
end
inductive xR(t:NA)(b:UD)(a:bp)(xs:List V)(lK:Loc)(H:AH)(E:AH->Prop)(N:Loc->AH->Prop)(R:V->AH->Prop):Prop where
 |intro(I:Nat->Loc->AH->Prop)(h0:I 0 lK H)(h1:∀i l h,I i l h->h a=aq (.list xs))(h2:∀i l h x tt K,xs[i]?=aq x->I i l h->h tt=aI->(∀l h,I (i+1) l h->K l h)->t (.ref tt) l (upd h tt<|.tup [.int i,x]) E (UE b E K R))(h3:∀l h,I xs.length l h->N l h)
def rm(it:bp)(i:Int)(old:aZ):Obj:={cls:=.type "enumerate",data:=.fields #[.none,.bool ag,.ref it,rawInt i,.none,old]}
inductive FIE(S:rE)(X:PX)(lJ:Env)(I:Nat->Loc->AH->Prop)(n:Nat)(e it a:bp)(k:Nat)(l:Loc)(h:AH)(hp:bL):Prop where
 |mk(i:Nat)(old:aZ)(e1:k+i=n)(q:I i l h)(he:IsEnum hp e it i old)(w:hp.IsListIter it a i)(ap:gJ S X lJ h e)(BE:gJ S X lJ h it)
section
variable{X:Cx}
theorem Rz{ts:po X}{tk:Nat}{tp:Pos}{b:lZ X}{a e it:bp}{xs:List V}{lJ:Env}{lK:Loc}{H:AH}{E:AH->Prop}{N C:Loc->AH->Prop}{R:V->AH->Prop}(c:qK X)(o:oW X lJ)(q:xR (ST.tp ts tk tp).ev b.ev a xs lK H E N R)(IA:e≠it)
  {S:rE}{X':PX}{A:Around}{s:bh}(ok:DY X.n S lJ A)(st:St S X' lJ lK H s.heap)(ap:gJ S X' lJ H e)(ap':gJ S X' lJ H it)(he:IsEnum s.heap e it 0 .none)(hit:s.heap.IsListIter it a 0)[oS:oz s]:
  nV (0<X.n) G.M A (runOwn (.forLoop (ST.tp ts tk tp).ex (.ref e) b.pP [] lJ) lJ) (λf s'=>PQ S X' lJ s' λl' h'=>SQ N C R f l' h') (Rd X.n S X' lJ E) s:=by
 obtain⟨I,h0,h1,h2,h3⟩:=q;refine AZ (ST.tp ts tk tp) b c o ok (FIE S X' lJ I xs.length e it a) (λk l h s1 pz jj [D6:oz s1]=>?_) (k:=xs.length) st ⟨0,.none,rfl,h0,he,hit,ap,ap'⟩;obtain⟨i,old,hk,hI,he,hit,BE,RA⟩:=jj;obtain⟨vs,kk,e1,r,_⟩:=pz.obj<|h1 i l h hI;have ll:=r.len;have ll:=bf▸ll;by_cases lt:i<xs.length
 .obtain⟨x,hx⟩:∃x,xs[i]?=aq x:=⟨_,bU lt⟩;obtain⟨v,F1,F2⟩:=r.get hx;refine fC he hit e1.isList (by simpa using F1) IA λh' ZX yN ht hsz LM=>?_;refine eF ZX λKJ UG E4=>?_;have Tf:s1.heap.objs.size≠e:=λq=>by let:=bQ he;let this:=bF (q)▸this;exact bW _ this
  have WX:gJ S X' lJ h s1.heap.objs.size:=pz.apart<|mL _;let sF:St S X' lJ l h KJ:=pz.wX [e,it] (λa m=>by
   rcases aA.mp m with rfl|m
   .exact BE
   .rcases aA.mp m with rfl|m
    .exact RA
    .cases m) λb ob nb q=>(E4.2 b λz=>nb<|z▸.head _).trans (LM b ob (λz=>nb<|z▸.head _) (λz=>nb<|z▸.tail _ (.head _)) q)
  let UH:KJ.get? s1.heap.objs.size=aq {cls:=.type "tuple",data:=.seq #[.int i s1.toks,v]}:=(E4.2 _ Tf).trans ht;let rV:=sF.tell (o:=.tup [.int i,x]) WX ⟨_,0,UH,.cons (.int _ _) (.cons F2 .nil),by rw[mA];show(2:Nat)<=16777216;exact id<|LA.u0 0x980000019422000 ("$")⟩;let n1:e≠s1.heap.objs.size:=Tf.symm;let n2:it≠s1.heap.objs.size:=λq=>by obtain⟨oi,g1,_⟩:=hit;let:=bQ g1;rw[q]at this;exact bW _ this
  refine gu λP9 mG=>?_;obtain⟨oi,g1,g2,g3⟩:=yN;refine mG ?_;let ZY:KJ.get? it=aq oi:=(E4.2 it IA.symm).trans g1;let hE:KJ.get? e=aq (rm it ((i:Int)+1) v):=UG;refine⟨inferInstance,.ref s1.heap.objs.size,_,[(e,rm it ((i:Int)+1) v),(it,oi)],.ref _,rV,λp hp=>?_,?_⟩
  .rcases aA.mp hp with rfl|hp
   .exact⟨hE,BE.upd n1⟩
   .rcases aA.mp hp with rfl|hp
    .exact⟨ZY,RA.upd n2⟩
    .cases hp
  .let l1:[(e,rm it ((i:Int)+1) v),(it,oi)].lookup e=aq (rm it ((i:Int)+1) v):=by simp
   have l2:[(e,rm it ((i:Int)+1) v),(it,oi)].lookup it=aq oi:=by rw[cf,beq_eq_false_iff_ne.mpr IA.symm];simp
   refine h2 i l h x _ _ hx hI (gw WX.1).2.2.1 λl3 h3 q h4 Ig=>⟨k-1,(">xZzMR8jc$H8dK*u#79+?'#",hk,lt,rfl),⟨i+1,v,("1ZtYqL&}F)Hqb;xPrxzu6C?#36]*9'#",hk,lt,rfl),q,?_,⟨oi,Ig.vw l2,g2,g3⟩,Ig.tL l1 (by show cP "enumerate"≠cP "tuple";decide) BE,Ig.tL l2 (by rw[g2];decide) RA⟩⟩;let z:=Ig.vw l1;rw[show((i+1:Nat):Int)=(i:Int)+1 from("'p8Cy>A;gh`$#")];exact z
 .let:i=xs.length:=("'UouxHPykbg#4qZH6&#",hk,lt);subst this;exact fM ok.1.2.2.2 he hit e1.isList (by rw[bY,ll];exact dg _) λh' hx=>⟨inferInstance,pz.wX [it] (λa m=>by rcases aA.mp m with rfl|m;exact RA;cases m) λb ob nb q=>hx b ob (λz=>nb<|z▸.head _) q,h3 l h hI⟩
def SS.fe(ts:po X)(tk:Nat)(tp:Pos)(i:Nat)(es:oa X)(pn pi:Pos)(b:lZ X)(p:Pos):SS X where
 st:=.For (.Tuple ts.qx tk tp) (.Call (.Name (mV (X.nw.getD i (0,.free)).1) pn) es.qx [] pi) b.pP [] p
 ev:=λlK H E N C R=>FZ 119 X.nw[i]? (es.ev lK H E λys H=>wg ys<|uu λa=>lW H a<|wV λxs=>xR (ST.tp ts tk tp).ev b.ev a xs lK H E N R)
 ok:=λlJ lK H E N C R c o h=>by
  obtain⟨hi,h⟩:=FZ.elim h
  .rw[fA];refine gx<|gy<|xQ c o hi ("") Ea (.inr ⟨_,rfl⟩) h λys vs H' qG q=>?_
   .obtain⟨x,rfl,q⟩:=wg.elim q;obtain⟨a,rfl,q⟩:=uu.elim q;obtain⟨v,rfl,hv⟩:=qG.one;obtain rfl:=hv.nF;obtain⟨ob,ho,q⟩:=q;obtain⟨xs,rfl,q⟩:=wV.elim q
    .intro S X' A s ok st oS;obtain⟨us,k,e1,r,_⟩:=st.obj ho;refine mi<|gs<|call_enumerate_list e1.isList λh' he hit hsz hk=>?_;refine mi<|m9<|mi<|gs<|cp ?_;refine mi<|nN<|gs<|eP he ?_;have wj:=st.keeps (h':=h') hk;have f1:s.heap.get? s.heap.objs.size=aI:=mL _;have f2:s.heap.get? (s.heap.objs.size+1)=aI:=by
      cases q:s.heap.get? (s.heap.objs.size+1)with
      |none=>rfl
      |some o=>exact absurd (bQ q) (by show¬(s.heap.objs.size+1<s.heap.objs.size);exact("&>xb)Z8K$#"))
     exact Rz (s:={s with heap:=h'}) c o q (dX<|dG _) ok wj (st.apart f2) (st.apart f1) he hit
theorem RB{t:ST X}{b:lZ X}{a:bp}{xs:List V}{lJ:Env}{lK:Loc}{H:AH}{E:AH->Prop}{N C:Loc->AH->Prop}{R:V->AH->Prop}(c:qK X)(o:oW X lJ)(ho:H a=aq (.tup xs))(q:sG t.ev b.ev a (.tup xs) xs lK H E N R):
  Tr X.n lJ (do runOwn (.forLoop t.ex (<-bV [.ref a] (pyIter<|.ref a)) b.pP [] lJ) lJ) lK H (SQ N C R) E:=by
 obtain⟨I,h0,h1,h2,h3⟩:=q;intro S X' A s ok st oS;obtain⟨vs,k,e1,r,l⟩:=st.obj ho;refine mi<|nN<|gs<|wpAny_pyIter_tuple (items:=vs) ⟨_,e1,rfl,k,rfl⟩ ?_;have wj:=st.push {cls:=.type "tuple_iterator",data:=.fields #[.ref a,.int 0 0]};let ap:gJ S X' lJ H s.heap.objs.size:=st.apart<|mL _;refine AZ t b c o (s:={s with heap:=_}) ok (λk l h hp=>FI S X' lJ I xs.length (λi=>hp.IsTupleIter s.heap.objs.size a i) s.heap.objs.size k l h) (λk l h s1 pz jj [D6:oz s1]=>?_) (k:=xs.length) wj ⟨0,rfl,h0,⟨_,bE _ rfl,rfl,rfl⟩,ap⟩;obtain⟨i,hk,hI,hit,BE⟩:=jj;obtain⟨vs,kk,e1,r,_⟩:=pz.obj<|h1 i l h hI;have ll:=r.len;have ll:=bf▸ll;have keep:∀{h':bL},eM s.heap.objs.size s1.heap h'->St S X' lJ l h h':=λhe=>pz.wX [s.heap.objs.size] (λa m=>by rcases aA.mp m with rfl|m;exact BE;cases m) λb ob nb q=>he b ob (λz=>nb<|z▸.head _) q;by_cases lt:i<xs.length
 .obtain⟨x,hx⟩:∃x,xs[i]?=aq x:=⟨_,bU lt⟩;obtain⟨v,F1,F2⟩:=r.get hx;refine wpAny_pyNext_tuple_item hit (items:=vs) ⟨_,e1,rfl,kk,rfl⟩ (by simpa using F1) λh' yN hs=>?_;let sF:=keep hs.extBut;refine gu λP9 mG=>?_;obtain⟨oi,g1,g2,g3⟩:=yN;refine mG ?_;refine E2 (T:="tuple_iterator") g1 g2 ("") ⟨inferInstance,x,h,[(s.heap.objs.size,oi)],F2,sF,λp hp=>?_,?_⟩
  .rcases aA.mp hp with rfl|hp
   .exact⟨g1,BE⟩
   .cases hp
  .refine h2 i l h x _ hx hI λl3 h3 q h4 rV=>⟨k-1,(">xZzMR8jc$H8dK*u#79+?'#",hk,lt,rfl),i+1,("1ZtYqL&}F)Hqb;xPrxzu6C?#36]*9'#",hk,lt,rfl),q,⟨oi,rV.vw (by simp),g2,g3⟩,rV.tL (o:=oi) (by simp) (by rw[g2];decide) BE⟩
 .have:i=xs.length:=("'UouxHPykbg#4qZH6&#",hk,lt);subst this;exact wpAny_pyNext_tuple_end ok.1.2.2.2 hit (items:=vs) ⟨_,e1,rfl,kk,rfl⟩ (by rw[bY,ll];exact dg _) λh' he=>⟨inferInstance,keep he,h3 l h hI⟩
def SS.ft(t:ST X)(e:SE X)(b:lZ X)(p:Pos)(hf:aJ 0 (kE e.ex)=af):SS X where
 st:=.For t.ex e.ex b.pP [] p
 ev:=λlK H E N C R=>e.ev lK H E λx H=>uu (λa=>lW H a<|KH λxs=>sG t.ev b.ev a (.tup xs) xs lK H E N R) x
 ok:=λlJ lK H E N C R c o h=>by rw[fA];refine gx<|gy<|gF (e.ok lJ lK H E _ c o h) λv x H' hv q=>?_;rw[(Ny hf).fo];refine gx<|gB<|gx<|gy ?_;obtain⟨a,rfl,q⟩:=uu.elim q;obtain rfl:=hv.nF;obtain⟨ob,ho,q⟩:=q;obtain⟨xs,rfl,q⟩:=KH.elim q;exact RB c o ho q
end
def C8(lJ:Env):List (Str×bu)->List (Str×bp)->List (Str×bp)
 |[],cs=>cs
 |(n,k)::r,cs=>C8 lJ r<|if k=.free then(n,(lJ.cells.lookup n).getD 0)::cs else cs
theorem BF{scope:Scope}{lJ:Env}(h:∀x∈scope.names,x.2=.free->(lJ.cells.lookup x.1).isSome=af):closureFor scope lJ=pure (C8 lJ scope.names []):=by
 let main:∀(l:List<|Str×bu)(cs:List<|Str×bp),(∀x∈l,x.2=.free->(lJ.cells.lookup x.1).isSome=af)->
   (forIn l cs λ(x:Str×bu)(cs:List<|Str×bp)=>(if(x.2==cR)=af then(do let c<-cellOf lJ x.1;pure (dN<|(x.1,c)::cs))else pure (dN cs):Sem _))=pure (C8 lJ l cs):=by
  intro l
  induction l with
  |nil=>intro cs _;rfl
  |cons x l ih=>
   obtain⟨n,k⟩:=x;intro cs hx;rw[gh];by_cases e:k=.free
   .subst e;obtain⟨c,hc⟩:=bN.mp<|hx (n,.free) (.head _) rfl;let e1:cellOf lJ n=pure c:=by unfold cellOf;exact bF hc▸rfl
    simp only[beq_self_eq_true,if_true,e1,pure_bind];refine bF (ih _ λy hy=>hx y<|.tail _ hy)▸?_;let e2:C8 lJ ((n,.free)::l) cs=C8 lJ l (if cR=.free then(n,(lJ.cells.lookup n).getD 0)::cs else cs):=rfl;rw[e2,mZ rfl,hc];rfl
   .rw[mT (by simpa using e)];simp only[pure_bind];refine bF (ih _ λy hy=>hx y<|.tail _ hy)▸?_;let e2:C8 lJ ((n,k)::l) cs=C8 lJ l (if k=.free then(n,(lJ.cells.lookup n).getD 0)::cs else cs):=rfl;rw[e2];exact bF (mT e)▸rfl
 unfold closureFor;exact(congrArg (·>>=λr=>pure r)<|main scope.names [] h).trans rfl
theorem BG{lJ:Env}{x:Str}:∀{l:List (Str×bu)}{cs:List (Str×bp)},(l.map (·.1)).Nodup->(x,cR)∈l->(lJ.cells.lookup x).isSome=af->(C8 lJ l cs).lookup x=lJ.cells.lookup x:=by
 have skip:∀{l:List (Str×bu)}{cs:List (Str×bp)},(∀k,(x,k)∉l)->(C8 lJ l cs).lookup x=cs.lookup x:=by
  intro l
  induction l with
  |nil=>intro cs _;rfl
  |cons y l ih=>
   obtain⟨n,k⟩:=y;intro cs h;rw[show C8 lJ ((n,k)::l) cs=C8 lJ l (if k=.free then(n,(lJ.cells.lookup n).getD 0)::cs else cs)from rfl,ih λk m=>h k<|.tail _ m];split
   .rw[cf,beq_eq_false_iff_ne.mpr λe=>h k (by rw[e];exact .head _)]
   .rfl
 intro l
 induction l with
 |nil=>intro cs _ m;cases m
 |cons y l ih=>
  obtain⟨n,k⟩:=y;intro cs nd m hs;simp only[bS,fE]at nd;rw[show C8 lJ ((n,k)::l) cs=C8 lJ l (if k=.free then(n,(lJ.cells.lookup n).getD 0)::cs else cs)from rfl];rcases aA.mp m with e|m
  .obtain⟨rfl,rfl⟩:=eL e;rw[mZ rfl,skip λk m=>nd.1<|dP (f:=(·.1)) m,cf,beq_self_eq_true];obtain⟨c,hc⟩:=bN.mp hs;rw[hc];rfl
  .exact ih nd.2 m hs
noncomputable def hold(lJ:Env)(h:bL)(X:PX):PX:=λa=>open Classical in if sQ lJ a then h.get? a else X a
theorem xS{lJ:Env}{h:bL}{X:PX}{a:bp}(o:sQ lJ a):hold lJ h X a=h.get? a:=mZ o
theorem tM{lJ:Env}{h:bL}{X:PX}{a:bp}(o:¬sQ lJ a):hold lJ h X a=X a:=mT o
def xo(qT:List<|Nat×bu):List (Nat×bu):=qT.map λp=>match p.2 with
 |.free=>(p.1,.cell)
 |_=>p
def UI(k:Nat):List (Nat×bu)->Nat
 |[]=>0
 |p::r=>bif aF p.1 k then 0 else UI k r+1
def A0(qT nw:List<|Nat×bu)(lK:Loc):Loc:=qT.map λp=>match p.2 with
 |.free=>getL lK (UI p.1 nw)
 |_=>aI
def cK:bu->Bool
 |.cell=>af
 |_=>ag
def WY(o:Option<|Nat×bu)(w:Nat):Bool:=match o with
 |some p=>cK p.2&&aF p.1 w
 |none=>ag
theorem IK{o:Option (Nat×bu)}{w:Nat}(h:WY o w=af):o=aq (w,.cell):=by
 cases o with
 |none=>exact xL h
 |some p=>
  obtain⟨a,k⟩:=p;cases k with
  |cell=>exact congrArg (λz=>aq (z,NameKind.cell)) (bJ h)
  |_=>exact xL h
def yO(qT nw:List<|Nat×bu):Bool:=qT.all λp=>match p.2 with
 |.free=>WY nw[UI p.1 nw]? p.1
 |.local=>af
 |.globalImplicit=>af
 |_=>ag
theorem OF{α:Type}{f:α->Option V}{l:List α}:∀{i:Nat}{v:V},getL (l.map f) i=aq v->∃x,l[i]?=aq x/\f x=aq v:=by
 induction l with
 |nil=>intro i v h;exact pB h
 |cons x l ih=>
  intro i v h;cases i with
  |zero=>exact⟨x,rfl,h⟩
  |succ i=>exact ih h
section
variable{X:Cx}{S:rE}{X':PX}{lJ:Env}{lK:Loc}{H:AH}{h:bL}{qT:List (Nat×bu)}{scope:Scope}
theorem C9(hs:scope.names=qj qT)(hk:yO qT X.nw=af)(nd:(X.nw.map (·.1)).Nodup)(o:oW X lJ)(fk:lJ.scope.kind=.function):(relabel scope lJ).names=qj (xo qT):=by
 unfold relabel;dsimp only;rw[hs];unfold qj xo;rw[cO];rw[cO];refine dU λp m=>?_;obtain⟨w,k⟩:=p;let c:=bT.mp hk _ m;dsimp only at c;show(if(k==cR&&lJ.scope.kind==.function&&lJ.kindOf (mV w)==aq .cell)=af then(mV w,NameKind.cell)else(mV w,k))=_;cases k with
 |free=>
  have LM:=IK (show WY _ _=af from c);let e:lJ.kindOf (mV w)=aq .cell:=by show lJ.scope.names.lookup _=_;rw[o];exact mM (rk nd)<|nX LM
  rw[mZ (by rw[fk,e];decide)];rfl
 |_=>rfl
theorem yP(hs:scope.names=qj qT)(hk:yO qT X.nw=af)(nd:(X.nw.map (·.1)).Nodup)(o:oW X lJ){x:Str}(m:(x,cR)∈scope.names):lJ.scope.names.lookup x=aq .cell:=by have m:=hs▸m;obtain⟨⟨w,k⟩,m',e⟩:=ef.mp m;obtain⟨rfl,rfl⟩:=eL e;let c:=bT.mp hk _ m';have LM:=IK (show WY _ _=af from c);rw[o];exact mM (rk nd)<|nX LM
theorem St.inner{C:bp}{cenv:Env}{h1:bL}(c:qK X)(o:oW X lJ)(st:St S X' lJ lK H h)(hs:scope.names=qj qT)(vx:scope.kind=.function)(hk:yO qT X.nw=af)(nd:(qT.map (·.1)).Nodup)
  (hC:h.get? C=aI)(keep:∀b ob,h.get? b=aq ob->h1.get? b=aq ob)(hn:h1.Ns C λ_=>aI)
  (e:cenv={scope:=relabel scope lJ,locals:=C,globals:=lJ.globals,cells:=C8 lJ scope.names [],qual:=lJ.qual,func:=aI,code:=lJ.code,frame:=lJ.frame,builtins:=lJ.builtins}):
  St S (hold lJ h X') cenv (A0 qT X.nw lK) H h1/\cenv.scope.names=qj (xo qT)/\¬Own cenv:=by
 have xi:∀x,lJ.scope.names.lookup x=aq .cell->(lJ.cells.lookup x).isSome=af:=λx q=>bN.mpr<|st.e.VO x q;have z:=st.apart hC;let zn:=gw z.1;have names:cenv.scope.names=qj (xo qT):=by rw[e];exact C9 hs hk c.nd o st.e.kind
 have hl:cenv.locals=C:=by exact bF e▸rfl
 have TY:cenv.frame=lJ.frame:=by exact bF e▸rfl
 have VX:cenv.cells=C8 lJ scope.names []:=by exact bF e▸rfl
 have snd:(scope.names.map (·.1)).Nodup:=by rw[hs];exact rk nd
 let inn:∀{i:Nat}{w:Nat}{kd:bu},(xo qT)[i]?=aq (w,kd)->∃k,qT[i]?=aq (w,k)/\(kd=.cell->k=.free∨k=.cell)/\(k=.free->kd=.cell):=by intro i w kd q;unfold xo at q;have q:=cj▸q;refine gu λP9 mG=>?_;obtain⟨⟨w',k⟩,q1,q2⟩:=ah.mp q;refine mG ?_;cases k<;>(obtain⟨rfl,rfl⟩:=eL q2;refine⟨_,q1,?_,?_⟩<;>intro q<;>first|rfl|exact .inl rfl|exact .inr rfl|cases q)
 have UJ:∀{i:Nat}{w:Nat},qT[i]?=aq (w,.cell)->False:=λ{i w} q=>by have:=bT.mp hk _<|bR q;cases this
 have E5:∀x,cenv.scope.names.lookup x=aq .cell->lJ.scope.names.lookup x=aq .cell/\cenv.cells.lookup x=lJ.cells.lookup x:=by
  intro x q;have q:=names▸q;let m0:=PySem.mem_of_lookup q;obtain⟨⟨w,kd⟩,m1,e1⟩:=ef.mp m0;obtain⟨rfl,rfl⟩:=eL e1;obtain⟨i,hi⟩:=fT m1;refine gu λP9 mG=>?_;obtain⟨k,q1,q2,_⟩:=inn hi;refine mG ?_;rcases q2 rfl with rfl|rfl
  .let mf:(mV w,cR)∈scope.names:=by rw[hs];exact bR (nX q1)
   let oc:=yP hs hk c.nd o mf;exact⟨oc,by rw[VX];exact BG snd mf<|xi _ oc⟩
  .exact(UJ q1).elim
 have OG:¬Own cenv:=λw=>by
  unfold Own at w;let w:=TY▸w;let w:=hl▸w;by_cases ow:Own lJ
  .unfold Own at ow;let w:=ow▸w;obtain rfl:=(qz w).symm;exact z.2<|.inl rfl
  .obtain⟨ob,q⟩:=st.e.Lz ow C w;let q:=zn.2.1▸q;exact pB q
 have xs:∀a,(sQ lJ a∨∃ob,X' a=aq ob)->∃ob,hold lJ h X' a=aq ob:=λa q=>by
  by_cases ow:sQ lJ a
  .rw[xS ow];exact(st.e.Bj ow).1
  .rw[tM ow];exact q.resolve_left ow
 have ndi:((xo qT).map (·.1)).Nodup:=by
  let:(xo qT).map (·.1)=qT.map (·.1):=by unfold xo;rw[cO];refine dU λp _=>?_;obtain⟨w,k⟩:=p;cases k<;>rfl
  rw[this];exact nd
 refine⟨⟨⟨⟨st.r.b.g,λa ob q=>keep a ob<|st.r.b.base a ob q,λa ob q=>?_,λa ob q=>(st.r.b.obj a ob q).mono (keep a),λa ob q m=>⟨(st.r.b.dj a ob q m).1,?_⟩⟩,λp hp=>?_⟩,?_⟩,names,OG⟩
 .by_cases ow:sQ lJ a
  .let q:=(xS ow)▸q;exact keep a ob q
  .let q:=(tM ow)▸q;exact keep a ob<|st.r.b.sP a ob q
 .by_cases ow:sQ lJ a
  .let:=(st.e.Bj ow).2.2.2.1;let this:=q▸this;exact rQ this
  .rw[tM ow];exact(st.r.b.dj a ob q m).2
 .obtain⟨a1,a2,L,a3,⟨sl,a4⟩,a5,a6,a7⟩:=st.r.f p hp;refine⟨a1,a2,L,a3,⟨sl,keep L _ a4⟩,a5,?_,a7⟩;rw[tM λow=>(st.e.Bj ow).2.2.2.2 p hp a3];exact a6
 .refine{kind:=by rw[e];exact vx,Rc:=by rw[e];exact st.e.Rc,blt:=by rw[e];exact st.e.blt,nd:=by rw[names];exact rk ndi,own:=?_,ns:=⟨λ_=>aI,by rw[hl];exact hn,λi v q=>?_⟩,cl:=λw=>(OG w).elim,NZ:=λw=>(OG w).elim,VO:=λx q=>by let s1:=(E5 x q).1;let s2:=(E5 x q).2;rw[s2];exact st.e.VO x s1,cx:=λ_ x cc q q'=>?_,Lz:=λ_ L q=>?_}
  .rw[hl];exact⟨zn.1,by rw[tM z.2];exact zn.2.1,zn.2.2.1,zn.2.2.2⟩
  .refine gu λP9 mG=>?_;obtain⟨⟨w,k⟩,q1,q2⟩:=OF q;refine mG ?_;cases k with
   |free=>
    dsimp only at q2;let mf:(mV w,cR)∈scope.names:=by rw[hs];exact bR<|nX q1
    obtain⟨m,hm,r⟩:=st.e.ns;refine gu λP9 mG=>?_;obtain⟨x,kk,r1,r2⟩:=r _ _ q2;refine mG ?_;let cc:=bT.mp hk _<|bR q1;have LM:=IK (show WY _ _=af from cc);have r1:=o▸r1;have r1:=(nX LM)▸r1;cases r1;refine gu λP9 mG=>?_;obtain⟨ca,cv,s1,s2,s3⟩:=r2;refine mG ?_;let ic:(xo qT)[i]?=aq (w,.cell):=by unfold xo;refine bF cj▸?_;rw[q1];rfl
    refine⟨mV w,.cell,by rw[names];exact nX ic,ca,cv,?_,oG (keep ca) s2,s3⟩;rw[VX];refine bF (BG snd mf<|xi _<|yP hs hk c.nd o mf)▸?_;exact s1
   |_=>exact pB q2
  .let s1:=(E5 x q).1;let s2:=(E5 x q).2;let q':=s2▸q';exact xs cc<|st.e.cells ⟨x,s1,q'⟩
  .let q:=TY▸q;by_cases ow:Own lJ
   .unfold Own at ow;let q:=ow▸q;obtain rfl:=qz q;exact xs _<|.inl (.inl rfl)
   .exact xs _<|.inr (st.e.Lz ow L q)
theorem uC.WZ{H':AH}(x:uC S X' lJ lK H h)(n:∀a,sQ lJ a->H' a=aI):uC S X' lJ lK H' h:=
 {x with
  own:=⟨x.own.1,x.own.2.1,n _<|.inl rfl,x.own.2.2.2⟩
  cl:=λw y c e e'=>let z:=x.cl w y c e e';⟨z.1,z.2.1,z.2.2.1,n c<|.inr ⟨w,y,e,e'⟩,z.2.2.2.2⟩}
theorem St.outer{cenv:Env}{l':Loc}{H':AH}{h2:bL}(st:St S X' lJ lK H h)(pz:St S (hold lJ h X') cenv l' H' h2):St S X' lJ lK H' h2:=by
 have own:∀a,sQ lJ a->∀ob,h.get? a=aq ob->h2.get? a=aq ob:=λa ow ob q=>pz.r.b.sP a ob (by rw[xS ow];exact q);have up:∀a ob,X' a=aq ob->hold lJ h X' a=aq ob:=λa ob q=>by
  by_cases ow:sQ lJ a
  .let q:=(st.e.Bj ow).2.2.1▸q;exact pB q
  .rw[tM ow];exact q
 have dn:∀a,hold lJ h X' a=aI->X' a=aI:=λa q=>by
  cases q':X' a with
  |none=>rfl
  |some ob=>let q:=(up a ob q')▸q;exact rQ q
 have noH:∀a,sQ lJ a->H' a=aI:=λa ow=>by
  cases q:H' a with
  |none=>rfl
  |some ao=>
   obtain⟨⟨ob,q1⟩,_⟩:=st.e.Bj ow;cases ao with
   |tup xs=>
    obtain⟨vs,k,e,_⟩:=pz.r.b.obj a _ q;let e2:=own a ow ob q1;let e:=e2▸e;obtain rfl:=(qz e).symm;rcases ow with rfl|⟨w,x,e3,e4⟩
    .refine gu λP9 mG=>?_;obtain⟨m,⟨o2,es,ep,e5,e6,_⟩,_⟩:=st.e.ns;refine mG ?_;have q1:=e5▸q1;cases q1;cases e6
    .refine gu λP9 mG=>?_;obtain⟨⟨v,⟨o2,e5,e6⟩⟩,_⟩:=st.e.cl w x a e3 e4;refine mG ?_;have q1:=e5▸q1;cases q1;cases e6
   |_=>
    have:=(pz.r.b.dj a _ q rfl).2;let this:=(xS ow)▸this;let this:=q1▸this;exact rQ this
 refine⟨⟨⟨pz.r.b.g,pz.r.b.base,λa ob q=>pz.r.b.sP a ob<|up a ob q,pz.r.b.obj,λa ob q m=>⟨(pz.r.b.dj a ob q m).1,dn a (pz.r.b.dj a ob q m).2⟩⟩,λp hp=>?_⟩,?_⟩
 .obtain⟨a1,a2,L,a3,a4,a5,a6,a7⟩:=pz.r.f p hp;exact⟨a1,a2,L,a3,a4,a5,dn L a6,a7⟩
 .refine(st.e.keep λa ob q e=>?_).WZ noH;rcases q with q|⟨UA,q⟩
  .exact own a q ob e
  .have e1:=st.r.b.sP a UA q;let e1:=e▸e1;obtain rfl:=(qz e1).symm;exact pz.r.b.sP a ob<|up a ob q
end
inductive CM|L(a:bp)(xs:List V)|E(a:bp)(xs:List V)|R(lo st:Int)(m:Nat)
def CM.len:CM->Nat
 |.L _ xs=>xs.length
 |.E _ xs=>xs.length
 |.R _ _ m=>m
def CM.side(H:AH):CM->Prop
 |.L a xs=>H a=aq (.list xs)
 |.E a xs=>H a=aq (.list xs)
 |.R ..=>True
def CM.turn(i:Nat)(H:AH)(K:V->AH->Prop):CM->Prop
 |.L _ xs=>∀x,xs[i]?=aq x->K x H
 |.E _ xs=>∀x t,xs[i]?=aq x->H t=aI->K (.ref t) (upd H t<|.tup [.int i,x])
 |.R lo st m=>i<m->K (.int (lo+st*i)) H
def KL(x l st:Int):Obj:={cls:=.type "range_iterator",data:=.fields #[rawInt x,rawInt l,rawInt st]}
inductive ItL(S:rE)(X:PX)(lJ:Env)(it:aZ)(H:AH)(w:bp->Prop):Prop where
 |mk(I:bp)(e:it=.ref I)(w:w I)(ap:gJ S X lJ H I)
inductive ItE(S:rE)(X:PX)(lJ:Env)(it:aZ)(i:Nat)(H:AH)(hp:bL)(a:bp):Prop where
 |mk(e I:bp)(old:aZ)(e1:it=.ref e)(ne:e≠I)(w:IsEnum hp e I i old)(l:hp.IsListIter I a i)(ap:gJ S X lJ H e)(BE:gJ S X lJ H I)
inductive ItV(F:V->AH->List (bp×Obj)->bL->Prop)(v:aZ)(h:bL):Prop where
 |mk(x:V)(H':AH)(P:List<|bp×Obj)(hv:VR v x)(f:F x H' P h)
def OH(S:rE)(X:PX)(lJ:Env)(it:aZ)(i:Nat)(H:AH)(hp:bL):CM->Prop
 |.L a xs=>ItL S X lJ it H λI=>hp.IsListIter I a i
 |.E a xs=>ItE S X lJ it i H hp a
 |.R lo st m=>ItL S X lJ it H λI=>IsRangeIter hp I (lo+st*i) ((m:Int)-i) st
section
variable{S:rE}{X:PX}{lJ:Env}{lK:Loc}{H:AH}{A:Around}{s:bh}{it:aZ}
theorem RC{E:aZ->bh->Prop}{Q:aZ->bh->Prop}{i:Nat}{m:CM}(w:OH S X lJ it i H s.heap m)(h:Q it s):wpAny G.M A (pyIter it) Q E s:=by
 cases m with
 |L a xs=>obtain⟨I,rfl,w,_⟩:=w;exact wpAny_pyIter_listiter w h
 |E a xs=>obtain⟨e,I,old,rfl,_,w,_⟩:=w;exact eP w h
 |R lo st m=>obtain⟨I,rfl,w,_⟩:=w;exact wpAny_pyIter_rangeiter w h
theorem RD{E:aZ->bh->Prop}{tgt:Expr}{i:Nat}{m:CM}(hh:A.handled=aI)(ZZ:(∃a xs,m=.E a xs)->∃ts k p,tgt=.Tuple ts k p)(st:St S X lJ lK H s.heap)(sd:m.side H)(w:OH S X lJ it i H s.heap m)(hi:i<=m.len){N:bL->Prop}
  {F:V->AH->List (bp×Obj)->bL->Prop}
  (hN:i=m.len->∀h',St S X lJ lK H h'->N h')
  (hF:i<m.len->m.turn i H λx H'=>∀P h',St S X lJ lK H' h'->(∀p∈P,h'.get? p.1=aq p.2/\gJ S X lJ H' p.1)->(∀l3 H3 h4,St S (X.add P) lJ l3 H3 h4->OH S X lJ it (i+1) H3 h4 m)->F x H' P h')[oS:oz s]:
  wpAny G.M A (pyNext it) (λr s1=>match r with
   |none=>oz s1/\N s1.heap
   |some v=>wpAny G.M A (letOwnedTupleGo tgt it v) (λ_ s2=>oz s2/\ItV F v s2.heap) E s1) E s:=by
 have W0:∀{I T o v s1}{Q:Unit->bh->Prop},s1.heap.get? I=aq o->o.cls=.type T->["enumerate","zip","dict_itemiterator","dict_reverseitemiterator","odict_iterator","itertools.zip_longest","itertools.pairwise"].contains T=ag->Q () s1->wpAny G.M A (letOwnedTupleGo tgt (.ref I) v) Q E s1:=λe hc hT h=>E2 e hc hT h;cases m with
 |L a xs=>
  obtain⟨I,rfl,hit,ap⟩:=w;obtain⟨vs,kk,e1,r,_⟩:=st.obj sd;have ll:=r.len;have ll:=bf▸ll;have keep:∀{h':bL},eM I s.heap h'->St S X lJ lK H h':=λhe=>st.wX [I] (λa m=>by rcases aA.mp m with rfl|m;exact ap;cases m) λb ob nb q=>he b ob (λz=>nb<|z▸.head _) q;by_cases lt:i<xs.length
  .obtain⟨x,hx⟩:∃x,xs[i]?=aq x:=⟨_,bU lt⟩;obtain⟨v,F1,F2⟩:=r.get hx;refine fy hit e1.isList (by simpa using F1) λh' yN hs=>?_;let sF:=keep hs.extBut;refine gu λP9 mG=>?_;obtain⟨oi,g1,g2,g3⟩:=yN;refine mG ?_;refine W0 (T:="list_iterator") g1 g2 ("") ⟨inferInstance,x,H,[(I,oi)],F2,hF lt x hx _ _ sF (λp hp=>?_) λl3 h3 h4 rV=>⟨I,rfl,⟨oi,rV.vw (by simp),g2,g3⟩,rV.tL (o:=oi) (by simp) (by rw[g2];decide) ap⟩⟩;rcases aA.mp hp with rfl|hp
   .exact⟨g1,ap⟩
   .cases hp
  .have:i=xs.length:=fJ hi (fi.mp lt);subst this;exact fL hh hit e1.isList (by rw[bY,ll];exact dg _) λh' he=>⟨inferInstance,hN rfl _<|keep he⟩
 |E a xs=>
  obtain⟨e,I,old,rfl,IA,he,hit,BE,RA⟩:=w;obtain⟨vs,kk,e1,r,_⟩:=st.obj sd;have ll:=r.len;have ll:=bf▸ll;by_cases lt:i<xs.length
  .obtain⟨x,hx⟩:∃x,xs[i]?=aq x:=⟨_,bU lt⟩;obtain⟨v,F1,F2⟩:=r.get hx;refine fC he hit e1.isList (by simpa using F1) IA λh' ZX yN ht hsz LM=>?_;have Tf:s.heap.objs.size≠e:=λq=>by let:=bQ he;let this:=bF (q)▸this;exact bW _ this
   let n1:e≠s.heap.objs.size:=Tf.symm;have n2:I≠s.heap.objs.size:=λq=>by obtain⟨oi,g1,_⟩:=hit;let:=bQ g1;let this:=q▸this;exact bW _ this
   let WX:gJ S X lJ H s.heap.objs.size:=st.apart<|mL _;refine gu λP9 mG=>?_;obtain⟨oi,g1,g2,g3⟩:=yN;refine mG ?_;have fin:∀KJ v',KJ.get? e=aq (rm I ((i:Int)+1) v')->dW e h' KJ->ItV F (.ref s.heap.objs.size) KJ:=λKJ v' hE E4=>by
    let sF:St S X lJ lK H KJ:=st.wX [e,I] (λa m=>by
     rcases aA.mp m with rfl|m
     .exact BE
     .rcases aA.mp m with rfl|m
      .exact RA
      .cases m) λb ob nb q=>(E4.2 b λz=>nb<|z▸.head _).trans (LM b ob (λz=>nb<|z▸.head _) (λz=>nb<|z▸.tail _ (.head _)) q)
    let UH:KJ.get? s.heap.objs.size=aq {cls:=.type "tuple",data:=.seq #[.int i s.toks,v]}:=(E4.2 _ Tf).trans ht;let rV:=sF.tell (o:=.tup [.int i,x]) WX ⟨_,0,UH,.cons (.int _ _) (.cons F2 .nil),by rw[mA];show(2:Nat)<=16777216;exact id<|LA.u0 0x980000019422000 ("$")⟩;let ZY:KJ.get? I=aq oi:=(E4.2 I IA.symm).trans g1;refine⟨.ref s.heap.objs.size,_,[(e,rm I ((i:Int)+1) v'),(I,oi)],.ref _,hF lt x _ hx (gw WX.1).2.2.1 _ _ rV (λp hp=>?_) λl3 h3 h4 Ig=>?_⟩
    .rcases aA.mp hp with rfl|hp
     .exact⟨hE,BE.upd n1⟩
     .rcases aA.mp hp with rfl|hp
      .exact⟨ZY,RA.upd n2⟩
      .cases hp
    .let l1:[(e,rm I ((i:Int)+1) v'),(I,oi)].lookup e=aq (rm I ((i:Int)+1) v'):=by simp
     let l2:[(e,rm I ((i:Int)+1) v'),(I,oi)].lookup I=aq oi:=by rw[cf,beq_eq_false_iff_ne.mpr IA.symm];simp
     refine⟨e,I,v',rfl,IA,?_,⟨oi,Ig.vw l2,g2,g3⟩,Ig.tL l1 (by show cP "enumerate"≠cP "tuple";decide) BE,Ig.tL l2 (by rw[g2];decide) RA⟩;let z:=Ig.vw l1;rw[show((i+1:Nat):Int)=(i:Int)+1 from("'p8Cy>A;gh`$#")];exact z
   dsimp only;obtain⟨ts,k,p,rfl⟩:=ZZ ⟨_,_,rfl⟩;exact eF ZX λKJ UG E4=>⟨inferInstance,fin KJ _ UG E4⟩
  .have:i=xs.length:=fJ hi (fi.mp lt);subst this;exact fM hh he hit e1.isList (by rw[bY,ll];exact dg _) λh' hx=>⟨inferInstance,hN rfl _<|st.wX [I] (λa m=>by rcases aA.mp m with rfl|m;exact RA;cases m) λb ob nb q=>hx b ob (λz=>nb<|z▸.head _) q⟩
 |R lo F3 m=>
  obtain⟨I,rfl,hit,ap⟩:=w;have keep:∀{h':bL},eM I s.heap h'->St S X lJ lK H h':=λhe=>st.wX [I] (λa m=>by rcases aA.mp m with rfl|m;exact ap;cases m) λb ob nb q=>he b ob (λz=>nb<|z▸.head _) q;by_cases lt:i<m
  .refine fg hit ("{j>/toyt4ww%#",lt) λh' yN hs=>?_;let sF:=keep hs.extBut;let g1:h'.get? I=aq (KL (lo+F3*i+F3) ((m:Int)-i-1) F3):=yN;refine W0 (T:="range_iterator") g1 rfl ("") ⟨inferInstance,.int (lo+F3*i),H,[(I,KL (lo+F3*i+F3) ((m:Int)-i-1) F3)],.int ..,hF lt lt _ _ sF (λp hp=>?_) λl3 h3 h4 rV=>⟨I,rfl,?_,rV.tL (a:=I) (o:=KL (lo+F3*i+F3) ((m:Int)-i-1) F3) (by simp) (by show cP "range_iterator"≠cP "tuple";decide) ap⟩⟩
   .rcases aA.mp hp with rfl|hp
    .exact⟨g1,ap⟩
    .cases hp
   .let z:h4.get? I=aq (KL (lo+F3*i+F3) ((m:Int)-i-1) F3):=rV.vw (by simp);let e1:lo+F3*(i:Int)+F3=lo+F3*((i+1:Nat):Int):=by rw[Int.natCast_add,Int.mul_add];exact(Int.add_assoc lo _ _).trans (congrArg (λz=>lo+(F3*(i:Int)+z)) (Int.mul_one F3).symm)
    let e2:(m:Int)-i-1=(m:Int)-((i+1:Nat):Int):=("K:~NL)P7Wx,^kDw%#");refine e1▸?_;refine e2▸?_;exact z
  .let:i=m:=fJ hi (fi.mp lt);subst this;exact fB hh hit ("096io}.6$#") λh' he=>⟨inferInstance,hN rfl _<|keep he⟩
end
def Cx.zero(X:Cx):Cx:={X with n:=0}
def Cx.comp(X:Cx)(qT:List<|Nat×bu):Cx:={X with nw:=xo qT,n:=0}
theorem Cx.KM{X:Cx}(c:qK X):qK X.zero:=⟨c.nd,c.gv,c.gf,c.fld,c.QQ,c.bi⟩
theorem RE{qT:List (Nat×bu)}(nd:(qT.map (·.1)).Nodup):((xo qT).map (·.1)).Nodup:=by
 let:(xo qT).map (·.1)=qT.map (·.1):=by unfold xo;rw[cO];refine dU λp _=>?_;obtain⟨w,k⟩:=p;cases k<;>rfl
 rw[this];exact nd
theorem Cx.RG{X:Cx}(c:qK X){qT:List (Nat×bu)}(nd:(qT.map (·.1)).Nodup):qK (X.comp qT):=⟨RE nd,c.gv,c.gf,c.fld,c.QQ,c.bi⟩
theorem DY.zero{n:Nat}{S:rE}{lJ Z0:Env}{A:Around}(ok:DY n S lJ A):DY 0 S Z0 A:=
 ⟨⟨by have:=ok.1.1;exact("%Xd$5h2T6?zI'X3ryi=qDt57`c5C&#",this),by have:=ok.1.2.1;exact(".Q<jua6A/21C|8.ut:/:8&#",this),ok.1.2.2⟩,λh=>absurd h<|bW _⟩
abbrev E0:AH->Prop:=λ_=>False
theorem Tr.any{n:Nat}{lJ:Env}{lK:Loc}{H:AH}{α:Type}{m:Sem α}{P:α->Loc->AH->Prop}{E:AH->Prop}(hn:n=0)(h:Tr n lJ m lK H P E){S:rE}{X:PX}{A:Around}{s:bh}{E':aZ->bh->Prop}(ok:DY n S lJ A)(st:St S X lJ lK H s.heap)[oS:oz s]:
  wpAny G.M A m (λa s'=>PQ S X lJ s' λl H'=>P a l H') E' s:=by
 subst hn;exact bI (nV.any (bW 0)<|h S X A s ok st) (λ_ _ q=>q) λ_ _ q=>absurd q.1<|bW 0
structure CI(X:Cx)where
 ex:Expr
 fold:∀lJ x,foldedSetIterable ex lJ x=pure x
 ev:Loc->AH->(CM->AH->Prop)->Prop
 ok:∀lJ lK H K,qK X->oW X lJ->ev lK H K->∀S X' A s,DY 0 S lJ A->St S X' lJ lK H s.heap->[oz s]->
  wpAny G.M A (eval ex lJ) (λx s1=>wpAny G.M A (pyIter x) (λit s2=>oz s2/\∃m H',St S X' lJ lK H' s2.heap/\K m H'/\OH S X' lJ it 0 H' s2.heap m) (λ_ _=>False) s1) (λ_ _=>False) s
structure CT(X:Cx)where
 qx:List Expr
 tv:Loc->AH->(AH->Prop)->(Bool->AH->Prop)->Prop
 ok:∀lJ lK H E T,qK X->oW X lJ->tv lK H E T->Tr X.n lJ (forIn qx af λc r=>if r=af then do let ok<-isTrue c lJ (eval c lJ);pure (dN ok)else pure<|dN r) lK H (BQ lK T) E
def CT.no{X:Cx}:CT X:=⟨[],λ_ H _ T=>T af H,λlJ lK H E T c o h=>gB ⟨rfl,h⟩⟩
def CT.one{X:Cx}(e:SE X):CT X:=⟨[e.ex],e.tv,λlJ lK H E T c o h=>by simp only[gh,List.forIn_nil,if_true];exact Tr.assoc<|gH (e.tok lJ lK H E T c o h) λb H' q=>gx<|gB<|gB ⟨rfl,q⟩⟩
theorem CM.LP{i:Nat}{H:AH}{K K':V->AH->Prop}(hk:∀x H,K x H->K' x H):∀{m:CM},m.turn i H K->m.turn i H K'
 |.L ..,h=>λx e=>hk _ _ (h x e)
 |.E ..,h=>λx t e e'=>hk _ _ (h x t e e')
 |.R ..,h=>λl=>hk _ _<|h l
def cp3(D:bp)(K:Loc->AH->Prop)(l:Loc)(v:V)(h:AH):Prop:=Oy D (xpK l K) [v] h
def cp2(ev:Loc->AH->(AH->Prop)->(V->AH->Prop)->Prop)(D:bp)(K:Loc->AH->Prop)(l:Loc)(b:Bool)(h:AH):Prop:=mO b (ev l h E0<|cp3 D K l)<|K l h
def cp1(tv:Loc->AH->(AH->Prop)->(Bool->AH->Prop)->Prop)(ev:Loc->AH->(AH->Prop)->(V->AH->Prop)->Prop)(D:bp)(K:Loc->AH->Prop)(l:Loc)(h:AH):Prop:=tv l h E0<|cp2 ev D K l
def VY(t:NA)(tv:Loc->AH->(AH->Prop)->(Bool->AH->Prop)->Prop)(ev:Loc->AH->(AH->Prop)->(V->AH->Prop)->Prop)(D:bp)(K:Loc->AH->Prop)(l:Loc)(x:V)(h:AH):Prop:=t x l h E0<|cp1 tv ev D K
@[irreducible]noncomputable def px(m:CM)(t:NA)(tv:Loc->AH->(AH->Prop)->(Bool->AH->Prop)->Prop)(ev:Loc->AH->(AH->Prop)->(V->AH->Prop)->Prop)(l0:Loc)(H:AH)(Q:V->AH->Prop):Prop:=
 ∀D,H D=aI->∃I:Nat->Loc->AH->Prop,I 0 l0 (upd H D<|.list [])/\(∀i l h,I i l h->m.side h)/\
  (∀i l h(K:Loc->AH->Prop),I i l h->(∀l h,I (i+1) l h->K l h)->m.turn i h (VY t tv ev D K l))/\∀l h,I m.len l h->Q (.ref D) h
theorem px.intro{m:CM}{t:NA}{tv:Loc->AH->(AH->Prop)->(Bool->AH->Prop)->Prop}{ev:Loc->AH->(AH->Prop)->(V->AH->Prop)->Prop}{l0:Loc}{H:AH}{Q:V->AH->Prop}
  (h:∀D,H D=aI->∃I:Nat->Loc->AH->Prop,I 0 l0 (upd H D<|.list [])/\(∀i l h,I i l h->m.side h)/\
  (∀i l h(K:Loc->AH->Prop),I i l h->(∀l h,I (i+1) l h->K l h)->m.turn i h (VY t tv ev D K l))/\∀l h,I m.len l h->Q (.ref D) h):px m t tv ev l0 H Q:=by unfold px;exact h
theorem px.elim{m:CM}{t:NA}{tv:Loc->AH->(AH->Prop)->(Bool->AH->Prop)->Prop}{ev:Loc->AH->(AH->Prop)->(V->AH->Prop)->Prop}{l0:Loc}{H:AH}{Q:V->AH->Prop}(h:px m t tv ev l0 H Q):
  ∀D,H D=aI->∃I:Nat->Loc->AH->Prop,I 0 l0 (upd H D<|.list [])/\(∀i l h,I i l h->m.side h)/\
  (∀i l h(K:Loc->AH->Prop),I i l h->(∀l h,I (i+1) l h->K l h)->m.turn i h (VY t tv ev D K l))/\∀l h,I m.len l h->Q (.ref D) h:=by unfold px at h;exact h
theorem OH.move{S:rE}{X X2:PX}{lJ env2:Env}{it:aZ}{i:Nat}{H H2:AH}{hp hp2:bL}{m:CM}(w:OH S X lJ it i H hp m)(k:∀b ob,hp.get? b=aq ob->hp2.get? b=aq ob)
  (ap:∀a ob,hp.get? a=aq ob->gJ S X lJ H a->gJ S X2 env2 H2 a):OH S X2 env2 it i H2 hp2 m:=by
 cases m with
 |L a xs=>obtain⟨I,e,⟨o,h1,h2⟩,h3⟩:=w;exact⟨I,e,⟨o,k _ _ h1,h2⟩,ap _ _ h1 h3⟩
 |E a xs=>obtain⟨e,I,old,h0,h1,h2,⟨o,h3,h4⟩,h5,h6⟩:=w;exact⟨e,I,old,h0,h1,k _ _ h2,⟨o,k _ _ h3,h4⟩,ap _ _ h2 h5,ap _ _ h3 h6⟩
 |R lo st m=>obtain⟨I,e,h1,h3⟩:=w;exact⟨I,e,k _ _ h1,ap _ _ h1 h3⟩
inductive CLI(S:rE)(X:PX)(lJ:Env)(it:aZ)(m:CM)(I:Nat->Loc->AH->Prop)(k:Nat)(s:bh):Prop where
 |mk(sm:oz s)(i:Nat)(l:Loc)(h:AH)(e:k=m.len+1-i)(le:i<=m.len)(q:I i l h)(st:St S X lJ l h s.heap)(w:OH S X lJ it i h s.heap m)
inductive CLF(S:rE)(X:PX)(lJ:Env)(it:aZ)(m:CM)(l:Loc)(i:Nat)(K:V->AH->Prop)(x:V)(H:AH)(P:List<|bp×Obj)(h:bL):Prop where
 |mk(lt:i<m.len)(st:St S X lJ l H h)(hP:∀p∈P,h.get? p.1=aq p.2/\gJ S X lJ H p.1)(hW:∀l3 H3 h4,St S (X.add P) lJ l3 H3 h4->OH S X lJ it (i+1) H3 h4 m)(q:K x H)
inductive CLN(S:rE)(X:PX)(lJ:Env)(I:Loc->AH->Prop)(hp:bL):Prop where
 |mk(l:Loc)(h:AH)(q:I l h)(st:St S X lJ l h hp)
section
variable{X:Cx}{lJ:Env}
theorem LR{t:ST X}{ct:CT X}{el:SE X}{scope:Scope}{pos:Pos}{iter:Expr}{it:aZ}{D:bp}{m:CM}{I:Nat->Loc->AH->Prop}(c:qK X)(o:oW X lJ)(hn:X.n=0)(ZZ:(∃a xs,m=.E a xs)->∃ts k p,t.ex=.Tuple ts k p)
  (hs:∀i l h,I i l h->m.side h)
  (ht:∀i l h(K:Loc->AH->Prop),I i l h->(∀l h,I (i+1) l h->K l h)->m.turn i h (VY t.ev ct.tv el.ev D K l))
  {S:rE}{X':PX}{A:Around}{s:bh}(ok:DY 0 S lJ A){R:Result->bh->Prop}(hR:∀l h s',oz s'->I m.len l h->St S X' lJ l h s'.heap->R (.ok .next) s'){l:Loc}{h:AH}(h0:I 0 l h)(st:St S X' lJ l h s.heap)(w:OH S X' lJ it 0 h s.heap m)[oS:oz s]:
  codeAny G.M A (.compLoop (.ListComp el.ex [⟨t.ex,iter,ct.qx,0⟩] scope pos) 0 it (.ref D) lJ) R s:=by
 have VS:DY X.n S lJ A:=by rw[hn];exact ok
 refine codeAny_loop rfl (CLI S X' lJ it m I) (λk s' jj=>?_) (m.len+1) ⟨oS,0,l,h,rfl,aR _,h0,st,w⟩;obtain⟨D6,i,l,h,hk,hi,hI,st,w⟩:=jj;subst hk;show wpAny _ A ((compTurn (.ListComp el.ex [⟨t.ex,iter,ct.qx,0⟩] scope pos) 0 it (.ref D) lJ).onRaise (λx=>do noteFrame x lJ;theTreesLotGoes x)) _ _ s';refine wpAny_noted ?_;rw[compTurn_list];refine aY (cp (aY (bI (RD (E:=λ_ _=>False) (tgt:=t.ex) (N:=CLN S X' lJ<|I m.len) (F:=CLF S X' lJ it m l i<|VY t.ev ct.tv el.ev D (I<|i+1) l)
  ok.1.2.2.2 ZZ st (hs _ _ _ hI) w hi (λe h' nA=>⟨l,h,e▸hI,nA⟩) λlt=>CM.LP (λx H' q P h' nA hP hW=>⟨lt,nA,hP,hW,q⟩)<|ht i l h (I<|i+1) hI λ_ _ q=>q) (λr nW h₁=>?_) λ_ _ q=>q.elim)))
 let lt1:m.len+1-(i+1)<m.len+1-i:=("&i4($Cb,kdLNI8;+0cO;(LU'qUy]'#",hi,rfl,rfl);cases r with
 |none=>obtain⟨OE,l,h,q,nA⟩:=h₁;exact bg (hR l h _ OE q nA)
 |some v=>
  refine aY<|bI h₁ (λ_ s2 jj=>?_) λ_ _ q=>q.elim;refine gu λP9 mG=>?_;obtain⟨OE,x,H',P,hv,⟨lt,pz,hP,hW,q⟩⟩:=jj;refine mG ?_;have no:∀p∈P,X' p.1=aI:=λp m=>(gw (hP p m).2.1).2.1;let lQ:∀{l3 h3 h4},St S (X'.add P) lJ l3 h3 h4->St S X' lJ l3 h3 h4:=λsF=>sF.OC no pz.e.cx pz.e.Lz;let LS:i+1<=m.len+1:=("Bsog=GDadN&y%#",lt);refine aY<|bI (Tr.any hn (t.ok lJ l H' E0 _ v x c o hv q) VS<|pz.UC hP) (λ_ s3 jj=>?_) λ_ _ q=>q;obtain@⟨l3,h3,UF,sF,q⟩:=jj;refine aY<|bI (Tr.any hn (ct.ok lJ l3 h3 E0 _ c o q) VS sF) (λb s4 jj=>?_) λ_ _ q=>q;obtain@⟨l4,h4,smM,rV,⟨e4,q⟩⟩:=jj;subst e4;have done:∀{l5 h5}{s5:bh},oz s5->St S (X'.add P) lJ l5 h5 s5.heap->I (i+1) l5 h5->i<m.len->∃m',m'<m.len+1-i/\CLI S X' lJ it m I m' s5:=
   λsm5 Ig q lt=>⟨_,lt1,sm5,i+1,_,_,rfl,lt,q,lQ Ig,hW _ _ _ Ig⟩
  cases b with
  |false=>exact bg ⟨rfl,done smM rV q.ff lt⟩
  |true=>
   refine aY<|aY<|bI (Tr.any hn (el.ok lJ l4 h4 E0 _ c o q.tt) VS rV) (λy s5 jj=>?_) λ_ _ q=>q;obtain@⟨l5,h5,smN,Ig,⟨e5,v5,hv5,q5⟩⟩:=jj;subst e5;refine aY<|bI (Tr.any hn (sO (E:=E0) q5<|oB.cons hv5 .nil) VS Ig) (λy s6 jj=>?_) λ_ _ q=>q;obtain@⟨l6,h6,smO,YE,⟨e6,v6,hv6,q6⟩⟩:=jj;subst e6;exact bg<|bg ⟨rfl,done smO YE q6 lt⟩
end
def CM.fits(t:Expr):CM->Bool
 |.E ..=>match t with
  |.Tuple ..=>af
  |_=>ag
 |_=>af
theorem CM.RH{t:Expr}{m:CM}(h:m.fits t=af):(∃a xs,m=.E a xs)->∃ts k p,t=.Tuple ts k p:=by
 rintro⟨a,xs,rfl⟩;cases t with
 |Tuple a b c=>exact⟨_,_,_,rfl⟩
 |_=>exact xL h
section
variable{X:Cx}{lJ:Env}{lK:Loc}{H:AH}
theorem Eb(c:qK X)(o:oW X lJ){ci:CI X}{qT:List (Nat×bu)}{t:ST (X.comp qT)}{ct:CT (X.comp qT)}{el:SE (X.comp qT)}{scope:Scope}{pos:Pos}{Q:V->AH->Prop}{use:Option (aZ->Sem Unit)}{Qp E':_}
  (hs:scope.names=qj qT)(vx:scope.kind=.function)(hk:yO qT X.nw=af)(nd:(qT.map (·.1)).Nodup)(h:ci.ev lK H λm H=>mh (m.fits t.ex=af)<|px m t.ev ct.tv el.ev (A0 qT X.nw lK) H Q)
  {S:rE}{X':PX}{A:Around}{s:bh}(ok:DY 0 S lJ A)(st:St S X' lJ lK H s.heap)[oS:oz s]
  (Z1:∀D H' C s',oz s'->Q (.ref D) H'->St S X' lJ lK H' s'.heap->gJ S X' lJ H' C->(∃m,s'.heap.Ns C m)->compPost G.M A E' use Qp (.ref D) C (.ok .next) s'):
  wpAny G.M A (comprehension (.ListComp el.ex [⟨t.ex,ci.ex,ct.qx,0⟩] scope pos) scope lJ (firstIterPos [⟨t.ex,ci.ex,ct.qx,0⟩] pos) (newList []) ag (eval ci.ex lJ) use) Qp E' s:=by
 let xi:∀x,lJ.scope.names.lookup x=aq .cell->(lJ.cells.lookup x).isSome=af:=λx q=>bN.mpr<|st.e.VO x q;let W1:closureFor scope lJ=pure (C8 lJ scope.names []):=BF λx m e=>xi _ (yP hs hk c.nd o (by refine e▸?_;exact m));let snd:(scope.names.map (·.1)).Nodup:=by rw[hs];exact rk nd
 let UK:∀x∈scope.names,x.2=.local->scope.names.lookup x.1=aq .local:=λx m e=>by obtain⟨i,hi⟩:=fT m;rw[mM snd hi];exact bF e▸rfl
 let W2:∀x∈scope.names,x.2≠.cell:=λx m e=>by have m:=hs▸m;obtain⟨⟨w,k⟩,m1,e1⟩:=ef.mp m;subst e1;dsimp only at e;subst e;let:=bT.mp hk _ m1;exact xL this
 refine wpAny_comprehension_free (use:=use) rfl (ci.fold lJ) W1 vx UK ?_;refine bI (ci.ok lJ lK H _ c o h S X' A s ok st) (λx s1 h1=>bI h1 (λit s2 jj=>?_) λ_ _ q=>q.elim) λ_ _ q=>q.elim;refine gu λP9 mG=>?_;obtain⟨D6,m,H',pz,q,w⟩:=jj;refine mG ?_;let ft:=(gD q).1;let q:=(gD q).2;refine cI (hd:=by size_fits) (wpAny_newFunctionEnv W2 (by intro y hy;simp at hy) (λh1 Nx Nz=>?_) vx);dsimp only at Nx Nz⊢;have VZ:St S X' lJ lK (upd H' s2.heap.objs.size<|.list []) (s2.heap.push {cls:=.type "list",dict:=aI,data:=.seq ([]:List aZ).toArray}):=
  pz.alloc ⟨_,0,bE _ rfl,.nil,aR _⟩
 generalize hh:s2.heap.push {cls:=.type "list",dict:=aI,data:=.seq ([]:List aZ).toArray}=hD at Nx Nz VZ⊢
 let hsz:hD.objs.size=s2.heap.objs.size+1:=by rw[<-hh,fS]
 let hC:hD.get? hD.objs.size=aI:=mL _;have keep:∀b ob,hD.get? b=aq ob->h1.get? b=aq ob:=λb ob e=>Nz.extBut b ob (λz=>by subst z;let e:=hC▸e;exact pB e)<|bG _ e;let W3:∀b ob,s2.heap.get? b=aq ob->h1.get? b=aq ob:=λb ob e=>keep b ob (by refine hh▸?_;exact bG _ e);let sti:=(VZ.inner (C:=hD.objs.size) (cenv:={newEnv scope hD.objs.size lJ.globals (C8 lJ scope.names []) lJ.qual aI .none (aq lJ) lJ.builtins with scope:=relabel scope lJ}) c o hs vx hk nd hC keep Nx rfl).1;let names:=(VZ.inner (C:=hD.objs.size) (cenv:={newEnv scope hD.objs.size lJ.globals (C8 lJ scope.names []) lJ.qual aI .none (aq lJ) lJ.builtins with scope:=relabel scope lJ}) c o hs vx hk nd hC keep Nx rfl).2.1;let OG:=(VZ.inner (C:=hD.objs.size) (cenv:={newEnv scope hD.objs.size lJ.globals (C8 lJ scope.names []) lJ.qual aI .none (aq lJ) lJ.builtins with scope:=relabel scope lJ}) c o hs vx hk nd hC keep Nx rfl).2.2;let fD:H' s2.heap.objs.size=aI:=pz.qJ<|mL _;refine gu λP9 mG=>?_;obtain⟨I,i0,W4,OD,UL⟩:=px.elim q _ fD;refine mG ?_;let wi:=w.move (hp2:=h1) (X2:=hold lJ hD X') (env2:={newEnv scope hD.objs.size lJ.globals (C8 lJ scope.names []) lJ.qual aI .none (aq lJ) lJ.builtins with scope:=relabel scope lJ}) (H2:=upd H' s2.heap.objs.size<|.list []) W3 (λa ob e ap=>by
  have aD:a≠s2.heap.objs.size:=λz=>by rw[z,mL]at e;exact pB e
  let aC:a≠hD.objs.size:=λz=>by let:=bQ e;let this:=z▸this;let this:=hsz▸this;exact absurd this (fi.mpr<|Nat.le_succ _)
  refine⟨λk=>?_,λow=>?_⟩
  .rcases k with k|⟨UA,k⟩|⟨UA,k⟩|k
   .exact ap.1 (.inl k)
   .have k:=(tM ap.2)▸k;exact ap.1 (.inr (.inl ⟨_,k⟩))
   .let k:=(lV aD)▸k;exact ap.1 (.inr (.inr (.inl ⟨_,k⟩)))
   .exact ap.1 (.inr (.inr (.inr k)))
  .rcases ow with rfl|⟨ow,_⟩
   .exact aC rfl
   .exact OG ow)
 let loop:codeAny G.M A (.compLoop (.ListComp el.ex [⟨t.ex,ci.ex,ct.qx,0⟩] scope pos) 0 it (.ref s2.heap.objs.size) {newEnv scope hD.objs.size lJ.globals (C8 lJ scope.names []) lJ.qual aI .none (aq lJ) lJ.builtins with scope:=relabel scope lJ})
   (compPost G.M A E' use Qp (.ref s2.heap.objs.size) hD.objs.size) {s2 with heap:=h1,toks:=s2.toks+([]:List<|Str×aZ).length}:=by
  let OE:oz ⟨h1,s2.gens,s2.drawn,s2.toks+([]:List<|Str×aZ).length,s2.os⟩:=⟨D6.sm⟩;refine LR (X:=X.comp qT) (Cx.RG c nd) names rfl (CM.RH ft) W4 OD ok.zero (λl h s' UF hI sF=>?_) i0 sti wi;let ap:gJ S X' lJ (upd H' s2.heap.objs.size<|.list []) hD.objs.size:=VZ.apart hC;have no:=gw ap.1;obtain⟨mm,nm,_⟩:=sF.e.ns;refine Z1 _ h _ s' UF (UL l h hI) (VZ.outer sF) ⟨λk=>?_,ap.2⟩ ⟨mm,nm⟩;rcases k with⟨ob,k⟩|⟨ob,k⟩|⟨ob,k⟩|⟨p,hp,k⟩
  .have k:=no.1▸k;exact pB k
  .have k:=no.2.1▸k;exact pB k
  .let z:h hD.objs.size=aI:=sF.e.own.2.2.1;let k:=z▸k;exact pB k
  .exact no.2.2.2 p hp k
 exact codeAny_compStart_list loop<|RC wi loop
def SE.lc(ci:CI X)(qT:List<|Nat×bu)(t:ST<|X.comp qT)(ct:CT<|X.comp qT)(el:SE<|X.comp qT)(scope:Scope)(pos:Pos)
  (hs:scope.names=qj qT)(vx:scope.kind=.function)(hk:yO qT X.nw=af)(nd:(qT.map (·.1)).Nodup):SE X:=.plain (.ListComp el.ex [⟨t.ex,ci.ex,ct.qx,0⟩] scope pos)
 (λlK H E Q=>ci.ev lK H λm H=>mh (m.fits t.ex=af)<|px m t.ev ct.tv el.ev (A0 qT X.nw lK) H Q)
 (λlJ lK H E Q c o h=>gz λS X' A s ok st [oS:oz s]=>by rw[eval_ListComp];refine Eb c o hs vx hk nd h ok.zero st λD H' C s' D6 q nA ap⟨m,hn⟩=>⟨m,hn,λh' Nz=>⟨lK,H',?_,rfl,_,.ref D,q⟩⟩;exact nA.wX [C] (λa m=>by rcases aA.mp m with rfl|m;exact ap;cases m) λb ob nb e=>(Nz.2 b λz=>nb<|z▸.head _).trans e) λ_ _=>rfl
def SS.ac(i:Nat)(py:Pos)(ci:CI X)(qT:List<|Nat×bu)(t:ST<|X.comp qT)(ct:CT<|X.comp qT)(el:SE<|X.comp qT)(scope:Scope)(pos sp:Pos)
  (hs:scope.names=qj qT)(vx:scope.kind=.function)(hk:yO qT X.nw=af)(nd:(qT.map (·.1)).Nodup)
  (hl:(aF py.line pos.line&&qT.all λp=>!(aF p.1 (X.nw.getD i (0,.free)).1&&(p.2==.local||p.2==.cell)))=af):SS X where
 st:=.Assign [.Name (mV (X.nw.getD i (0,.free)).1) py] (.ListComp el.ex [⟨t.ex,ci.ex,ct.qx,0⟩] scope pos) sp
 ev:=λlK H E N C R=>match X.nw[i]? with
  |some (_,.local)=>ci.ev lK H λm H=>mh (m.fits t.ex=af) (px m t.ev ct.tv el.ev (A0 qT X.nw lK) H λv H=>N (xh lK i v) H)
  |_=>False
 ok:=λlJ lK H E N C R c o h=>by
  split at h
  .rename_i w hw;have ew:(X.nw.getD i (0,.free)).1=w:=by refine bF bq▸?_;rw[hw];rfl
   rw[ew]at hl⊢;have hi:lJ.scope.names[i]?=aq (mV w,.local):=by rw[o];exact nX hw
   refine gz λS X' A s ok st [oS:oz s]=>?_;have hsw:swapsWith (.ListComp el.ex [⟨t.ex,ci.ex,ct.qx,0⟩] scope pos) (aq<|.Name (mV w) py) sp.line lJ=pure af:=by
    rw[cN]at hl;have e1:(lJ.blockKind==.function)=af:=by unfold Env.blockKind;rw[st.e.kind];rfl
    have e2:(lJ.kindOf (mV w)==aq .local)=af:=by refine bF (show lJ.kindOf (mV w)=aq .local from mM st.e.nd hi)▸?_;rfl
    have e3:(py.line==pos.line)=af:=by rw[bJ hl.1];exact beq_self_eq_true _
    have e4:(scope.names.any λ(n,k)=>n==mV w&&(k==.local||k==.cell))=ag:=by
     rw[hs];refine eK.mpr λq=>?_;obtain⟨x,m,q⟩:=List.any_eq_true.mp q;obtain⟨p,m',rfl⟩:=ef.mp m;rw[cN]at q;have q1:mV p.1=mV w:=by simpa using q.1
     have z:=bT.mp hl.2 p m';rw[sE q1,q.2,Bool.and_true,Nat.beq_refl]at z;cases z
    show(pure (lJ.blockKind==.function&&lJ.kindOf (mV w)==aq .local&&py.line==pos.line&&!(scope.names.any λ(n,k)=>n==mV w&&(k==.local||k==.cell))):Sem Bool)=_;rw[e1];rw[e2];rw[e3];rw[e4];rfl
   rw[exec_Assign_Name_used _ _ _ _ hsw];refine aY<|cp<|aY ?_;show wpAny _ A (do let _<-comprehension (.ListComp el.ex [⟨t.ex,ci.ex,ct.qx,0⟩] scope pos) scope lJ _ (newList []) ag (eval ci.ex lJ) (aq<|assign (.Name (mV w) py) lJ)) _ _ s;refine aY<|bI (Eb (Qp:=λ_ s'=>PQ S X' lJ s' λl' H'=>N l' H') c o hs vx hk nd h ok.zero st λD H' C s' D6 q nA ap jj=>?_) (λ_ s'(.mk l' H' (sm:=OE) nA q)=>bg<|bg ⟨l',H',nA,q⟩) λ_ _ q=>q;obtain⟨m,hn⟩:=jj;show wpAny _ A (do ch py;bindName lJ (mV w) (.ref D)) _ _ s';obtain⟨oC,es,ep,h1,h2⟩:=id hn;have no:=gw ap.1;have hP:∀p∈[(C,oC)],s'.heap.get? p.1=aq p.2/\gJ S X' lJ H' p.1:=λp m=>by
    rcases aA.mp m with rfl|m
    .exact⟨h1,ap⟩
    .cases m
   refine aY<|cp<|bI (Tr.any (n:=0) rfl (AY (n:=0) (E:=E0) (K:=λl2 h2=>l2=xh lK i (.ref D)/\h2=H') hi (.inl rfl) (.ref D) ⟨rfl,rfl⟩) ok.zero<|nA.UC hP) (λu s3 jj=>?_) λ_ _ q=>q;obtain@⟨l3,h3,UF,sF,⟨e1,e2⟩⟩:=jj;subst e1 e2;have rV:=sF.OC (λp m=>by rcases aA.mp m with rfl|m;exact no.2.1;cases m) nA.e.cx nA.e.Lz;refine⟨m,EM (λob e=>by have e:=h1▸e;cases e;exact sF.vw (by simp)) hn,λh' Nz=>⟨_,_,rV.wX [C] (λa m=>by rcases aA.mp m with rfl|m;exact ap;cases m) λb ob nb e=>(Nz.2 b λz=>nb<|z▸.head _).trans e,q⟩⟩
  .exact h.elim
end
section
variable{X:Cx}{lJ:Env}{lK:Loc}{H:AH}
theorem zL{i k:Nat}{es:oa X.zero}{pn p:Pos}{f:aZ}{K:List V->AH->Prop}{Qp E':aZ->bh->Prop}(c:qK X)(o:oW X lJ)(hi:X.nw[i]?=aq (k,.globalImplicit))(hk:k∈[11,13,15,16,22,36,58,69,83,116,119,131])(hb:bootBuiltins (mV k)=aq f)(hf:(∃id,f=.builtin id)∨(∃T,f=.type T))
  (ha:es.ev lK H E0 K){S:rE}{X':PX}{A:Around}{s:bh}(ok:DY 0 S lJ A)(st:St S X' lJ lK H s.heap)[oS:oz s]
  (h:∀xs vs H' s',oz s'->oB vs xs->K xs H'->St S X' lJ lK H' s'.heap->wpAny G.M A (cq f vs) Qp E' s'):
  wpAny G.M A (eval (.Call (.Name (mV (X.nw.getD i (0,.free)).1) pn) es.qx [] p) lJ) Qp E' s:=by
 let ew:(X.nw.getD i (0,.free)).1=k:=by rw[bq,hi];rfl
 rw[qP,ew];let lx:lJ.kindOf (mV k)=aq .globalImplicit:=mM st.e.nd (by rw[o];exact nX hi);refine aY (cJ st.e.kind lx (eD (by rw[st.e.Rc];exact st.r.b.g.T.g.keeps st.r.b.base) (mg_none_of st.r.b.g.KX st.r.b.g.T.g<|c.bi k hk) (by rw[st.e.blt];exact st.r.b.g.T.b.keeps st.r.b.base) ((st.r.b.g.T.builtins _<|E1 k hk).trans hb) ?_)<|qO k);unfold callWith;let smZ:oz s:=⟨oS.sm⟩;refine aY<|cQ<|bI (Tr.any (n:=0) rfl (vv<|es.ok lJ lK H E0 K (Cx.KM c) o ha) ok st) (λa s'(.mk l H' (sm:=OE) nA ⟨e,WI,xs,qG,q⟩)=>aY<|cp ?_) λ_ _ q=>q;subst e;have Um:(((evalEach es.qx lJ).map λt=>(ag,t)).any (·.1)||([]:List<|Option Str×Sem aZ).any (·.1.isNone))=ag:=by simp
 let call:=h xs a.pos H' s' ⟨OE.sm⟩ qG q nA;rw[WI];rw[Um];rcases hf with⟨id,rfl⟩|⟨T,rfl⟩
 .exact aY<|bg<|aY<|bI call (λr NS q=>aY<|cQ<|fQ<|bg q) λ_ _ q=>q
 .exact aY<|bg<|aY<|bI call (λr NS q=>aY<|cQ<|fQ<|bg q) λ_ _ q=>q
end
theorem oB.three{vs:List aZ}{a b c:V}(h:oB vs [a,b,c]):∃v w u,vs=[v,w,u]/\VR v a/\VR w b/\VR u c:=by
 cases h with
 |cons h1 h=>cases h with
  |cons h2 h=>cases h with
   |cons h3 h=>cases h;exact⟨_,_,_,rfl,h1,h2,h3⟩
section
variable{X:Cx}{lJ:Env}{lK:Loc}{H:AH}
def CI.li(e:SE X.zero)(hf:aJ 0 (kE e.ex)=af):CI X where
 ex:=e.ex
 fold:=(Ny hf).fo
 ev:=λlK H K=>e.ev lK H E0 λx H=>uu (λa=>lW H a<|wV λxs=>K (.L a xs) H) x
 ok:=λlJ lK H K c o h S X' A s ok st oS=>by
  let smZ:oz s:=⟨oS.sm⟩;refine bI (Tr.any (n:=0) rfl (e.ok lJ lK H E0 _ (Cx.KM c) o h) ok st) (λv s1 jj=>?_) λ_ _ q=>q;obtain@⟨l,H',D6,wj,⟨e1,x,hv,q⟩⟩:=jj;subst e1;obtain⟨a,rfl,q⟩:=uu.elim q
  .obtain rfl:=hv.nF;obtain⟨ob,ho,q⟩:=q;obtain⟨xs,rfl,q⟩:=wV.elim q
   .obtain⟨vs,k,e1,r,_⟩:=wj.obj ho;refine wpAny_pyIter_list e1.isList ⟨⟨D6.sm⟩,.L a xs,H',wj.push _,q,s1.heap.objs.size,rfl,⟨_,bE _ rfl,rfl,rfl⟩,?_⟩;exact wj.apart<|mL _
def CI.en(i:Nat)(es:oa X.zero)(pn p:Pos):CI X where
 ex:=.Call (.Name (mV (X.nw.getD i (0,.free)).1) pn) es.qx [] p
 fold:=λ_ _=>rfl
 ev:=λlK H K=>FZ 119 X.nw[i]? (es.ev lK H E0 λys H=>wg ys<|uu λa=>lW H a<|wV λxs=>K (.E a xs) H)
 ok:=λlJ lK H K c o h S X' A s ok st oS=>by
  obtain⟨hi,h⟩:=FZ.elim h
  .refine zL c o hi ("") Ea (.inr ⟨_,rfl⟩) h ok st λys vs H' s1 D6 qG q wj=>?_
   .obtain⟨x,rfl,q⟩:=wg.elim q;obtain⟨a,rfl,q⟩:=uu.elim q;obtain⟨v,rfl,hv⟩:=qG.one;obtain rfl:=hv.nF;obtain⟨ob,ho,q⟩:=q;obtain⟨xs,rfl,q⟩:=wV.elim q
    .obtain⟨us,k,e1,r,_⟩:=wj.obj ho;refine call_enumerate_list e1.isList λh' he hit hsz hk=>?_;refine eP he ?_;have pz:=wj.keeps (h':=h') hk;have f1:s1.heap.get? s1.heap.objs.size=aI:=mL _;have f2:s1.heap.get? (s1.heap.objs.size+1)=aI:=by
      cases q:s1.heap.get? (s1.heap.objs.size+1)with
      |none=>rfl
      |some o=>exact absurd (bQ q) (by show¬(s1.heap.objs.size+1<s1.heap.objs.size);exact("&>xb)Z8K$#"))
     exact⟨inferInstance,.E a xs,H',pz,q,_,_,_,rfl,dX<|dG _,he,hit,wj.apart f2,wj.apart f1⟩
theorem RI{b:Int}(h0:0<=b)(h1:b<=1000000000000):Builtin.Range.small 0 b 8=af:=by unfold Builtin.Range.small;rw[rangeSize_pos ("pf.S9##") h0];simp only[Builtin.Range.rangeFitsLong,cN,Bool.or_eq_true,decide_eq_true_eq,beq_iff_eq,show(8:Int)>0 by decide,if_true];exact(",SmXN:mO1$Bg/tV%2#c:$e|%nFzli|1Ho*c1a=Kk#p<u[^Xr{tlx`P(WR0/$:>dPbohHV)(dKrU#;x#k{m'c8oTjW%l]:YoD{de:]=nBk#eAw*k|2s?'eA]e11o,n|1H;&bu^>QF1=C^}RRCL.zuSc_uRC|A,$O.h6KF1_JolbTgWvQU`uk^~13>i<H3EDZ|h)#%",h0,h1,rfl)
def aR3(K:Int->Int->Nat->Prop)(x y z:V):Prop:=rJ (λa=>rJ (λb=>rJ (λc=>mh (a=0/\c=8/\0<=b/\b<=1000000000000)<|K 0 8 ((b+7)/8).toNat) z) y) x
def Z2(K:Int->Int->Nat->Prop)(lo hi:Int):Prop:=K lo 1 (hi-lo).toNat
def UM(K:Int->Int->Nat->Prop)(x y:V)(r:List V):Prop:=match r with
 |[]=>GA [x,y] (Z2 K)
 |z::r=>match r with
  |[]=>aR3 K x y z
  |_::_=>False
def UN(K:Int->Int->Nat->Prop)(x:V)(r:List V):Prop:=match r with
 |[]=>GA [x] (Z2 K)
 |y::r=>UM K x y r
def KN(xs:List V)(K:Int->Int->Nat->Prop):Prop:=match xs with
 |[]=>False
 |x::r=>UN K x r
theorem KN.elim{xs:List V}{K:Int->Int->Nat->Prop}(h:KN xs K):(∃x y z,xs=[x,y,z]/\aR3 K x y z)∨GA xs (Z2 K):=by
 cases xs with
 |nil=>exact a9 h
 |cons x r=>
  cases r with
  |nil=>exact .inr h
  |cons y r=>
   cases r with
   |nil=>exact .inr h
   |cons z r=>
    cases r with
    |nil=>exact .inl ⟨x,y,z,rfl,h⟩
    |cons _ _=>exact a9 h
def CI.rg(i:Nat)(es:oa X.zero)(pn p:Pos):CI X where
 ex:=.Call (.Name (mV (X.nw.getD i (0,.free)).1) pn) es.qx [] p
 fold:=λ_ _=>rfl
 ev:=λlK H K=>FZ 69 X.nw[i]? (es.ev lK H E0 λys H=>KN ys λlo st m=>K (.R lo st m) H)
 ok:=λlJ lK H K c o h S X' A s ok st oS=>by
  obtain⟨hi,h⟩:=FZ.elim h
  .refine zL c o hi ("") boot_range (.inr ⟨_,rfl⟩) h ok st λys vs H' s1 D6 qG q wj=>?_;have fin:∀{a b':Int}{tk NB LO:Tok}{E'}{s2:bh}{r},(-1000000000000<=a/\a<=1000000000000)->(-1000000000000<=b'/\b'<=1000000000000)->K (.R a 1 (b'-a).toNat) H'->St S X' lJ lK H' s2.heap->IsRange s2.heap r a b' 1 tk NB LO->oz s2->
     wpAny G.M A (pyIter<|.ref r) (λit s2=>oz s2/\∃m H',St S X' lJ lK H' s2.heap/\K m H'/\OH S X' lJ it 0 H' s2.heap m) E' s2:=by
    intro a b' tk NB LO E' s2 r ha hb q pz hr UF;refine eE hr (small_one ("$Gm.jzC^svq7CFDu[tUX[go}_9PSwDg,BN^#/#$",ha) ("4V$FR+Hfj)aq6YC8YdGTl7]fXz)ucNgeZ.h{#$",ha) ("$Gm.jzC^svq7CFDu[tUX[go}_9PSwDg,BN^#/#$",hb) ("4V$FR+Hfj)aq6YC8YdGTl7]fXz)ucNgeZ.h{#$",hb)) ⟨inferInstance,_,H',pz.push _,q,s2.heap.objs.size,rfl,?_,pz.apart<|mL _⟩;have e:Builtin.Range.rangeSize a b' 1=(((b'-a).toNat:Nat):Int):=by rw[rangeSize_one];split<;>omega
    rw[e];show Heap.get? _ _=aq {cls:=cP "range_iterator",data:=Data.fields #[rawInt (a+1*((0:Nat):Int)),rawInt<|((b'-a).toNat:Int)-((0:Nat):Int),rawInt 1]};rw[show a+1*((0:Nat):Int)=a from(">[l}`uEi)q#$"),show((b'-a).toNat:Int)-((0:Nat):Int)=((b'-a).toNat:Int)from("$d#m#;Cpr.$#")];exact bE _ rfl
   obtain⟨x,y,z,rfl,q⟩|q:=KN.elim q
   .obtain⟨v,w,u,rfl,hv,hw,hu⟩:=oB.three qG;obtain⟨a1,rfl,q⟩:=gE q;obtain⟨b',rfl,q⟩:=gE q;obtain⟨c1,rfl,q⟩:=gE q;obtain⟨tk,rfl⟩:=hv.int_inv;obtain⟨NB,rfl⟩:=hw.int_inv;obtain⟨LO,rfl⟩:=hu.int_inv;obtain⟨⟨ea,ec,hb,NC⟩,q9⟩:=gD q;subst ea ec;refine call_range_3 ("") ?_;refine eE (eO ..) (RI hb NC) ⟨inferInstance,.R 0 8 ((b'+7)/8).toNat,H',(wj.push _).push _,q9,_,rfl,?_,(wj.push _).apart (mL _)⟩;rw[rangeSize_pos ("pf.S9##") hb];show Heap.get? _ _=aq {cls:=cP "range_iterator",data:=Data.fields #[rawInt (0+8*((0:Nat):Int)),rawInt<|(((b'+7)/8).toNat:Int)-((0:Nat):Int),rawInt 8]};refine bF (show(0:Int)+8*((0:Nat):Int)=0 from(">[nM+2dwGF##"))▸?_;refine bF (show(((b'+7)/8).toNat:Int)-((0:Nat):Int)=(b'+8-1)/8 from("f<#%R0S.dIE/,n0s9;{U*=|{:Q~a^]q&`F5|4'wj$&",hb,("%"),rfl,rfl))▸?_;exact bE _ rfl
   .obtain⟨_,rfl,q⟩|⟨x,y,rfl,q⟩:=GA.elim q
    .obtain⟨v,rfl,hv⟩:=qG.one;obtain⟨tk,rfl⟩:=hv.int_inv;obtain⟨hb,q⟩:=gD q;exact call_range_1<|fin (s2:={s1 with heap:=_,toks:=_}) ("y5'd2bca1_'kK4n3_SG4>j_##") hb q (wj.push _) (eO ..) inferInstance
    .obtain⟨v,u,rfl,hv,hu⟩:=qG.two;obtain⟨_,rfl,q⟩:=gE q;obtain⟨_,rfl,q⟩:=gE q;obtain⟨tk,rfl⟩:=hv.int_inv;obtain⟨NB,rfl⟩:=hu.int_inv;obtain⟨⟨ha,hb⟩,q⟩:=gD q;exact call_range_2<|fin (s2:={s1 with heap:=_,toks:=_}) ha hb q (wj.push _) (eO ..) inferInstance
end
def IL(h:bL)(ls:List bp):bL:={h with objs:=h.objs.mapIdx λi o=>bif ls.contains i then{cls:=.none,data:=.freed}else o}
theorem A1{h:bL}{ls:List bp}{a:bp}(m:a∈ls):(IL h ls).get? a=aI:=by
 unfold IL Heap.get?;rw[fN];cases q:h.objs[a]? with
 |none=>rfl
 |some o=>rw[fH,fO.mpr m];rfl
theorem GB{h:bL}{ls:List bp}{a:bp}(m:a∉ls):(IL h ls).get? a=h.get? a:=by
 unfold IL Heap.get?;rw[fN];let e:ls.contains a=ag:=eK.mpr λq=>m<|fO.mp q;cases q:h.objs[a]? with
 |none=>rfl
 |some o=>rw[fH,e];rfl
theorem OI{S:rE}{X:PX}{lJ:Env}{lK:Loc}{H:AH}{E:AH->Prop}{s:bh}{e:bp}{oe:Obj}{vs:Array aZ}{a0:aZ}(st:St S X lJ lK H s.heap)(own:lJ.frame=aq lJ.locals)(ap:gJ S X lJ H e)
  (he:s.heap.get? e=aq oe)(Re:oe.cls=.ref G.bad)(hd:oe.data=.fields vs)(h1:vs[1]?=aq .none)(h0:vs[0]?=aq a0)(hE:E H)[oS:oz s]:vi S X lJ E (sR lJ) (.ref e) s:=by
 let no:=gw ap.1;have nl:∀{a},a∈e::lJ.locals::S.filterMap (λp=>p.1.frame)->(G.h₀.get? a=aI/\X a=aI/\H a=aI):=by
  intro a m;rcases aA.mp m with rfl|m
  .exact⟨no.1,no.2.1,no.2.2.1⟩
  .rcases aA.mp m with rfl|m
   .exact⟨st.e.own.1,st.e.own.2.1,st.e.own.2.2.1⟩
   .obtain⟨p,hp,e1⟩:=db.mp m;refine gu λP9 mG=>?_;obtain⟨_,_,L,a3,_,b1,b2,b3⟩:=st.r.f p hp;refine mG ?_;let a3:=e1▸a3;obtain rfl:=(qz a3).symm;exact⟨b1,b2,b3⟩
 have keep:∀{a:bp},((∃o,G.h₀.get? a=aq o)∨(∃o,X a=aq o)∨∃o,H a=aq o)->(IL s.heap<|e::lJ.locals::S.filterMap (λp=>p.1.frame)).get? a=s.heap.get? a:=λ{a} q=>GB λm=>by
  let b1:=(nl m).1;let b2:=(nl m).2.1;let b3:=(nl m).2.2;rcases q with⟨o,q⟩|⟨o,q⟩|⟨o,q⟩
  .have q:=b1▸q;cases q
  .have q:=b2▸q;cases q
  .have q:=b3▸q;cases q
 obtain⟨m,hm,r⟩:=st.e.ns;let rb:It X H (IL s.heap<|e::lJ.locals::S.filterMap (λp=>p.1.frame)):=⟨st.r.b.g,λa o q=>(keep<|.inl ⟨o,q⟩).trans (st.r.b.base a o q),λa o q=>(keep<|.inr (.inl ⟨o,q⟩)).trans (st.r.b.sP a o q),λa o q=>(st.r.b.obj a o q).mono λob q'=>(keep<|.inr (.inr ⟨o,q⟩)).trans q',st.r.b.dj⟩;refine⟨e,H,IL s.heap<|e::lJ.locals::S.filterMap (λp=>p.1.frame),rfl,rb,st.r.f,st.e.own,⟨m,hm⟩,⟨λa o q=>?_,A1<|.head _,?_⟩,.new oe vs a0 he Re hd h1 h0,hE⟩
 .by_cases mm:a∈e::lJ.locals::S.filterMap (λp=>p.1.frame)
  .have q:=(A1 mm)▸q;cases q
  .let q:=(GB mm)▸q;exact q
 .refine gu λP9 mG=>?_;obtain⟨o,es,ep,e1,e2,_⟩:=hm;refine mG ?_;refine⟨by rw[st.e.kind];decide,⟨lJ.locals,o,own,A1<|.tail _ (.head _),e1,λvs q=>by rw[e2]at q;cases q⟩,Gi st.r.f λp hp L q=>A1<|.tail _ (.tail _ (db.mpr ⟨p,hp,q⟩))⟩
end Mine
end
section
open PySem renaming wpAny_bind→aY,wpAny_pure→bg,Value→aZ
open Bool renaming and_eq_true_iff→cG,false→ag,true→af
open Option renaming none→aI,some→aq
open PySem PySem.W PySem.Calls PyProof.Rows PySem.SeqAt
open PySem.Sem (wp)
open PySem.Builtin PySem.Builtin.ObjectAttr
namespace Mine
def Th(s:String):aZ->Bool
 |.type a=>a==s
 |_=>ag
def isR:aZ->Bool
 |.ref _=>af
 |_=>ag
theorem Th.eq{s:String}{v:aZ}(h:Th s v=af):v=.type s:=by
 cases v<;>try exact xL h
 exact congrArg Value.type<|eq_of_beq h
def KO(l:List aZ):Bool:=match l with
 |[]=>ag
 |x::r=>Th "Exception" x&&(match r with
  |[]=>ag
  |y::r=>Th "BaseException" y&&(match r with
   |[]=>ag
   |z::r=>Th "object" z&&r.isEmpty))
theorem KO.eq{l:List aZ}(h:KO l=af):l=[.type "Exception",.type "BaseException",.type "object"]:=by
 cases l with
 |nil=>exact xL h
 |cons x r=>
  obtain⟨h1,h⟩:=cG.mp h;cases r with
  |nil=>exact xL h
  |cons y r=>
   obtain⟨h2,h⟩:=cG.mp h;cases r with
   |nil=>exact xL h
   |cons z r=>
    obtain⟨h3,h⟩:=cG.mp h;cases r with
    |nil=>rw[Th.eq h1];rw[Th.eq h2];exact Eq.symm (Th.eq h3)▸rfl
    |cons _ _=>exact xL h
def ro:List aZ->Bool
 |[]=>ag
 |x::r=>isR x&&ro r||KO (x::r)
theorem ro.ind{P:List aZ->Prop}(h0:P [.type "Exception",.type "BaseException",.type "object"])(h1:∀c r,P r->P (.ref c::r)):∀{l:List aZ},ro l=af->P l:=by
 intro l
 induction l with
 |nil=>intro h;exact xL h
 |cons x r ih=>
  intro h;rcases Bool.or_eq_true_iff.mp h with h|h
  .obtain⟨a,b⟩:=cG.mp h;cases x<;>try exact xL a
   exact h1 _ _<|ih b
  .rw[KO.eq h];exact h0
theorem IM(self:aZ){l:List aZ}(h:ro l=af):refuseLoop self "__setattr__" l=pure ():=
 ro.ind (P:=λl=>refuseLoop self "__setattr__" l=pure ()) (PySem.F.store_Exception.passes self) (λc r ih=>by rw[refuseLoop_ref];exact ih) h
theorem RJ{l:List aZ}(h:ro l=af):l.contains (.type "object")=af:=
 ro.ind (P:=λl=>l.contains (.type "object")=af) (by simp) (λc r ih=>by rw[List.contains_cons,ih,Bool.or_true]) h
structure OJ(k:Nat):Prop where
 set:findIn G.K (.ref G.bad) "__setattr__"=aq (aq<|.builtin "object.__setattr__")
 mro:((clsIn G.K G.bad).any λcd=>ro cd.mro&&cd.hasDict)=af
 take:takerIn G.K G.bad (mV k)=aq aI
theorem RK{prog:Program}{w:World}{A:Around}{K:Frag}{R:Result->Shared->Prop}{s:Shared}{x C:Addr}{ox:Obj}{od:Option Obj}{name:Str}{tk:Tok}{v:aZ}{cd:ClassData}(X:K.In s.heap)(I:InstAt s.heap x ox C od)(hc:clsIn K C=aq cd)(ho:ro cd.mro=af)(ht:takerIn K C name=aq aI)
  (h:∀b,wpAny (model prog w) A.in1 (storeInOwnDict (.ref x) (.ref C) (.str name tk) name v b)
   (λfin s'=>match fin with|.done f=>R (.ok f) s'|.again c'=>c'.quiet=af/\codeAny (model prog w) A c' R s') (λe s'=>R (.error e) s') s):
  codeAny (model prog w) A (.call (.builtin "object.__setattr__") ⟨[.ref x,.str name tk,v],[]⟩) R s:=by
 let SF:=PySem.F.store_object;let ne:cd.mro.isEmpty=ag:=by cases q:cd.mro with|nil=>rw[q]at ho;cases ho|cons _ _=>rfl
 let sub:Looks (model prog w) s.heap (isInstance (.ref x)<|.type "object") af:=I.type.andThen (looks_mroIn X (by unfold mroIn;rw[hc,Option.bind_some,mT (by rw[ne];decide),RJ ho]));refine codeAny_call_builtin SF.slot.plain SF.entry<|@check_slot (model prog w) _ _ s "object.__setattr__" "object" "__setattr__" (.ref x) [.str name tk,v] [] _ SF.kind SF.split sub (SF.args (.ref x) (.str name tk) v) ?_;obtain⟨attr,ha,hr⟩:=Option.bind_eq_some_iff.mp ht;let hm:Looks (model prog w) s.heap (mroOf<|.ref C) cd.mro:=(looks_clsIn X hc).andThen .now;let L3:Looks (model prog w) s.heap (storeTaker? attr) aI:=by
  cases attr with
  |none=>exact .now
  |some a=>
   obtain⟨b,hb,e⟩:=Option.map_eq_some_iff.mp hr;refine(looks_takesIn X hb).andThen ?_;cases b
   .exact .now
   .exact rQ e
 rw[osa_eq,refuse_eq];refine aY<|aY<|I.type.here<|aY<|hm.here ?_;rw[IM _ ho];refine bg<|aY<|I.type.here<|aY<|(looks_findIn X ha).here (aY<|L3.here ?_);exact h _
section
variable{n:Nat}{lJ:Env}{lK:Loc}{H:AH}{E K:AH->Prop}
theorem UO{a t:Addr}{y:V}{k:Nat}{u:aZ}(hb:OJ k)(ho:H a=aq (.exc t aI))(hu:VR u y)(h:∀d,K<|upd H a<|.exc t (aq d)):Tr n lJ (setAttr (.ref a) (mV k) u) lK H (UQ lK K) E:=by
 refine Tr.leaf λS X A s ok st [oS:oz s]=>?_;have KX:G.K.In s.heap:=st.r.b.g.KX.keeps st.r.b.base;have hx:s.heap.get? a=aq {cls:=.ref G.bad,dict:=aI,data:=.fields #[.ref t,.none,.none,.none,.bool ag,.none]}:=st.obj ho;let I:InstAt s.heap a {cls:=.ref G.bad,dict:=aI,data:=.fields #[.ref t,.none,.none,.none,.bool ag,.none]} G.bad aI:=⟨hx,rfl,rfl,trivial⟩;obtain⟨cd,hc,hm⟩:=any_some hb.mro;rw[Bool.and_eq_true]at hm;refine set_plain KX I hb.set<|RK (s:={s with toks:=s.toks+1}) KX I hc hm.1 hb.take λ_=>?_;refine aY<|bg<|aY<|aY<|wpAny_loadPart hx<|aY<|looks_clsIn KX hc _ _ _ _ (λ_ _ e=>e) ?_;rw[hm.2];let ap:Apart S X lJ H s.heap.objs.size:=st.apart<|mL _;let ne:a≠s.heap.objs.size:=Nat.ne_of_lt<|Heap.lt_size hx;let wj:=st.push {cls:=.type "dict",data:=.dict #[]};let Da:(s.heap.push {cls:=.type "dict",data:=.dict #[]}).get? a=aq {cls:=.ref G.bad,dict:=aI,data:=.fields #[.ref t,.none,.none,.none,.bool ag,.none]}:=Heap.get?_push_of_some _ hx;refine aY (m:=alloc _)<|wpAny_alloc<|aY<|wpAny_update Da<|bg ?_;let hgd:((s.heap.push {cls:=.type "dict",data:=.dict #[]}).update a λo=>{o with dict:=aq s.heap.objs.size}).get? s.heap.objs.size=aq {cls:=.type "dict",data:=.dict #[]}:=
  (Heap.get?_update_other _ _ ne).trans (Heap.get?_push_size _ rfl)
 have S1:((s.heap.push {cls:=.type "dict",data:=.dict #[]}).update a λo=>{o with dict:=aq s.heap.objs.size}).Ns s.heap.objs.size (λ_=>aI):=
  ⟨_,#[],_,hgd,rfl,λe he=>absurd he (by simp),λ_=>rfl⟩
 let pz:St S X lJ lK (upd H a<|.exc t (aq s.heap.objs.size)) ((s.heap.push {cls:=.type "dict",data:=.dict #[]}).update a λo=>{o with dict:=aq s.heap.objs.size}):=
  wj.change (a:=a) (o':=.exc t (aq s.heap.objs.size)) ho rfl (Heap.SameBut.update ..) (Heap.get?_update_self (λo:Obj=>{o with dict:=aq s.heap.objs.size}) Da rfl)
 show wpAny _ _ (storeInDict s.heap.objs.size (.str (mV k) s.toks) (mV k) u) _ _ _;unfold storeInDict newKeyGuard;refine aY<|bg<|aY<|wpAny_nsSet1 (Heap.Ns1.of_empty S1) λh' YF hs=>?_;refine hide λP9 mG=>?_;obtain⟨oD,esD,epD,hoD,hdD,hcD⟩:=YF.count<|Within.cons (mV k) u Within.nil;refine mG ?_;refine aY (wpAny_lookBehind hoD (by rw[hdD];exact pastItsLine_dict<|Nat.le_trans hcD (by rw[List.length_cons];rw[List.length_nil];rw[mA];decide)) ?_);refine bg ⟨lK,_,pz.wX [s.heap.objs.size] (λb m=>?_) λb ob nb q=>(hs.2 b λz=>nb<|z▸.head _).trans q,rfl,h s.heap.objs.size⟩;rcases List.mem_cons.mp m with rfl|m
 .exact ap.upd ne.symm
 .cases m
end
end Mine
end
section
open PySem renaming wpAny_bind→aY,wpAny_pure→bg,wpAny_isSubtype_exc→gK,wpAny_standAt→cp,wpAny_loadPart_at→gL,Shared→bh,Value→aZ,wpAny_mono→bI,Addr→bp,standAt→ch
open Option renaming some→aq,none→aI
open PySem.Heap renaming get?_push_size→bE,get?_push_of_some→bG,size_push→fS
open PySem PySem.W PySem.Calls PyProof.Rows PySem.SeqAt
open PySem.Sem (wp)
namespace Mine
structure OK(M:Model)(h:Heap)(C:bp):Prop where
 obj:∃nm q N bs bm Il sn sub ab col dd k0 k1 k2 k3 k5,h.get? C=aq (excClassObj nm q C N bs bm Il sn sub ab col dd k0 k1 k2 k3 k5 "Exception.__new__")/\
  bm.contains (.type "Exception")=true/\bm.contains (.type "AttributeError")=false/\bm.contains (.type "NameError")=false
 call:Looks M h (specialOf (.ref C) "__call__") (aq<|.builtin "type.__call__")
 typ:Looks M h (isInstance (.ref C)<|.type "type") true
abbrev rW(C t:bp):Obj:={cls:=.ref C,data:=.fields #[.ref t,.none,.none,.none,.bool false,.none]}
abbrev rf(lS:List aZ):Obj:={cls:=.type "tuple",data:=.seq lS.toArray}
section
variable{b:Prop}{prog:Program}{w:World}{A:Around}{C:bp}{R:Result->bh->Prop}{h:Heap}{g:Array GenState}{d:Drawn}{t:Nat}{os:OsState}
theorem LT{lS:List aZ}{fI:bp}(Y:OK (model prog w) h C)(hr:lS.length<=sizeLine)(hi:Looks (model prog w) h (typeLookup (.ref C) "__init__")<|aq<|.ref fI)
  (hb:∀self,Looks (model prog w) h (bindSpecial (.ref fI) self) (.ref fI,[self]))
  (hq:oP b (model prog w) (A.under<|.builtin "type.__call__" ⟨.ref C::lS,[]⟩) (.call (.ref fI) ⟨.ref (h.objs.size+1)::lS,[]⟩) (InitBack (h.objs.size+1) R) ⟨(h.push<|rf lS).push (rW C h.objs.size),g,d,t,os⟩):
  oP b (model prog w) A (.call (.ref C) ⟨lS,[]⟩) R ⟨h,g,d,t,os⟩:=by
 refine hide λP9 mG=>?_;obtain⟨⟨nm,q,N,bs,bm,Il,sn,sub,ab,col,dd,k0,k1,k2,k3,k5,hC,hB,hA,hN⟩,call,typ⟩:=Y;refine mG ?_;let Oq:∀l,sW (.builtin "type.__call__" l):=λl=>by show Builtin.Bytes.decodersThatHold.contains "type.__call__"=false;decide+kernel
 refine oU<|nV.of ?_;refine nd_load hC ?_;show wpAny _ _ (callAny.viaDunder (.ref C) _) _ _ _;unfold callAny.viaDunder;refine aY<|call.at ?_;dsimp only;rw[tc_bind];refine aY<|bg<|aY<|bg ?_;refine bg (a:=Fin.again<|.call (.builtin "type.__call__") ⟨.ref C::lS,[]⟩) ⟨rfl,trivial,oU ?_⟩;refine mi (nV.of<|check_slot tc_kind tc_split typ (tc_args _ _ _)<|m9 ⟨Code.quiet_builtin _ (by decide+kernel),Oq _,rj entry_typeCall ?_⟩);unfold Builtin.«type.__call__»;dsimp only;rw[mT (by simp)];refine mi (m:=mroOf _)<|nV.of<|wpAny_mroOf_exc hC ?_;rw[mT (by simp)];refine mi (m:=Bind.madeBy _)<|nV.of<|wpAny_madeBy_exc hC ?_;dsimp only;refine mi<|m9<|mi<|nN<|nV.of<|wpAny_call<|codeAny_call_builtin_code (Code.quiet_builtin _ PySem.F.excBase_Exception.quiet)<|Im hB hC<|NP hB hA hN hC ?_ hr;let k:∀b o,h.get? b=aq o->((h.push<|rf lS).push (rW C h.objs.size)).get? b=aq o:=λb o e=>bG _<|bG _ e;let hx:((h.push<|rf lS).push (rW C h.objs.size)).get? (h.objs.size+1)=aq (rW C h.objs.size):=by heap_get
 let t1:Looks (model prog w) ((h.push<|rf lS).push (rW C h.objs.size)) (typeOf<|.ref (h.objs.size+1)) (.ref C):=(Looks.ld hx).andThen .now;let s1:Looks (model prog w) h (isSubtype (.ref C)<|.ref C) true:=λA Q E s k q=>by let h':=s.1;let g':=s.2;let d':=s.3;let t':=s.4;let os':=s.5;refine gK (k _ _ hC) ?_;rw[show(Value.ref C::bm).contains (.ref C)=true from by simp];exact q
 let i1:Looks (model prog w) ((h.push<|rf lS).push (rW C h.objs.size)) (isInstance (.ref (h.objs.size+1))<|.ref C) true:=by unfold isInstance;exact t1.andThen<|s1.keeps k
 refine mi (m:=isInstance _ _)<|nV.of<|i1.at ?_;rw[mT ("")];refine mi<|nN ?_;unfold callSpecial?;let i2:Looks (model prog w) ((h.push<|rf lS).push (rW C h.objs.size)) (specialOf (.ref (h.objs.size+1)) "__init__") (aq<|.ref fI):=by unfold specialOf;exact t1.andThen<|hi.keeps k
 refine mi (m:=specialOf _ _)<|nV.of<|i2.at ?_;refine nN<|mi (m:=bindSpecial _ _)<|nV.of<|((hb _).keeps k).at ?_;refine mi<|rS<|qe hq λr s' z=>?_;rcases r with e|(v|_|_|_)
 .exact z
 .exact z.elim
 .exact z.elim
 .exact z.elim
 .obtain⟨rfl,z⟩:=z;refine m9 ?_;dsimp only;rw[mT (by simp)];exact m9 z
end
def OM:List aZ:=[.ref 32,.type "Exception",.type "BaseException",.type "object"]
theorem IN:G.K.lookup 45=aq (excClassObj "BadBits" "BadBits" 45 44 [.ref 32] OM true [] [] false aI aI (aq<|.ref 36) aI (aq<|vs "BadBits" 219) (aq<|vs "BadBits" 227) (aq<|.bool true) "Exception.__new__"):=("$")
theorem GC:OM.contains (.type "BaseException")=true:=by decide+kernel
theorem ON:specialIn G.K (.ref 45) "__call__"=aq (aq<|.builtin "type.__call__"):=("$")
theorem OO:instIn G.K (.ref 45) (.type "type")=aq true:=("$")
theorem LU{M:Model}{h:Heap}(X:G.K.In h):OK M h 45:=
 ⟨⟨_,_,_,_,_,_,_,_,_,_,_,_,_,_,_,_,X _ _ IN,by decide+kernel,by decide+kernel,by decide+kernel⟩,looks_specialIn X ON,looks_instIn X OO⟩
theorem UP{n:Nat}{fI:bp}{args:List V}{H:AH}{Q:V->AH->Prop}{E:AH->Prop}(hi:findIn G.K (.ref G.bad) "__init__"=aq (aq<|.ref fI))(hf:typeIn G.K (.ref fI)=aq (.type "function"))(hl:args.length<=900)
  (h:∀tx x,H tx=aI->H x=aI->tx≠x->mH n (.ref fI) (.ref x::args) (upd (upd H tx<|.tup args) x<|.exc tx aI) (λr H'=>r=.none/\Q (.ref x) H') E):mH (n+1) (.ref G.bad) args H Q E:=by
 intro S X A s vs ok r qG oS;obtain⟨hh,g,d,t,os⟩:=s;have KX:G.K.In hh:=r.b.g.KX.keeps r.b.base;let z1:=Kn.no<|r.fresh<|mL hh;let lv:=qG.len;have r1:Rep S X (upd H hh.objs.size<|.tup args) (hh.push<|rf vs):=by have e0:(hh.push<|rf vs).get? hh.objs.size=aq (rf vs):=bE _ rfl;exact r.alloc ⟨_,0,e0,qG,by rw[mA];exact("([<R.&v*rfm6,#($#",hl)⟩
 let r2:Rep S X (upd (upd H hh.objs.size<|.tup args) (hh.objs.size+1)<|.exc hh.objs.size aI) ((hh.push<|rf vs).push (rW G.bad hh.objs.size)):=by
  let:=r1.alloc (o:=rW G.bad hh.objs.size) (ao:=.exc hh.objs.size aI)<|bE _ rfl
  rwa [fS]at this
 let D6:oz ⟨(hh.push<|rf vs).push (rW G.bad hh.objs.size),g,d,t,os⟩:=⟨oS.sm⟩;refine LT (LU KX) (by rw[lv];rw[mA];exact("([<R.&v*rfm6,#($#",hl)) (looks_findIn KX hi) (λself=>bind_fn KX self hf)<|qe (h hh.objs.size (hh.objs.size+1) z1.2.2.1 ?_ (Nat.ne_of_lt<|Nat.lt_succ_self _) S X _ ⟨(hh.push<|rf vs).push (rW G.bad hh.objs.size),g,d,t,os⟩ (.ref (hh.objs.size+1)::vs) ?_ r2<|.cons (.ref _) qG) λres s' q=>?_
 .let:=Kn.no (r1.fresh<|mL<|hh.push<|rf vs);rw[fS]at this;let q:=this.2.2.1;let q:=(lV<|Nat.ne_of_gt<|Nat.lt_succ_self _)▸q;exact q
 .let o1:=ok.1;let o2:=ok.2.1;let o3:=ok.2.2.1;let o4:=ok.2.2.2.1;let o5:=ok.2.2.2.2;refine⟨?_,o2,?_,?_,?_⟩
  .show A.units+1+100*n+320<=cLine;exact id<|LA.u270 0x52214012823207542401b6021401282421e40ea8036023 ("$") o1
  .show A.depth+(Code.builtin "type.__call__" ⟨.ref G.bad::vs,[]⟩).weight+10*n+6<=recursionLimit;let:(Code.builtin "type.__call__" ⟨.ref G.bad::vs,[]⟩).weight<=2:=by first|decide+kernel|exact Nat.le_refl _|(show 1<=2;decide)|(unfold Code.weight;simp[Code.isCreation,Code.isCaller,Code.isGuard,guardIds])
   exact("'>58A2/2(rFiI?W^6t[#o??N_;'#",o3,this)
  .exact o4
  .exact o5
 .rcases res with e|(v|_|_|_)
  .exact q
  .exact q.elim
  .exact q.elim
  .exact q.elim
  .refine hide λP9 mG=>?_;obtain⟨_,x,H',hv,r',rfl,q⟩:=q;refine mG ?_;exact⟨hv.none_inv,inferInstance,_,H',.ref _,r',q⟩
def KP(n:Nat):Prop:=∀x H,mH n (.ref G.bad) [x] H (λr H'=>∃a tx d,r=.ref a/\H a=aI/\H tx=aI/\tx≠a/\H'=upd (upd H tx<|.tup [x]) a (.exc tx (aq d))) λ_=>False
@[irreducible]noncomputable def xT(X:Cx):Prop:=∃m,X.n=m+1/\KP m
theorem xT.intro{X:Cx}{m:Nat}(e:X.n=m+1)(b:KP m):xT X:=by unfold xT;exact⟨m,e,b⟩
theorem xT.elim{X:Cx}(h:xT X):∃m,X.n=m+1/\KP m:=by unfold xT at h;exact h
theorem LV{M:Model}{A:Around}{E:aZ->bh->Prop}{s:bh}{lJ:Env}{C:bp}{nm q:Str}{N:bp}{bs bm:List aZ}{Il:Bool}{sn:List Str}{sub:List aZ}{ab:Bool}{col:Option Bool}{dd:Option bp}{k0 k1 k2 k3 k5:Option aZ}{newId:String}
  {x:Sem aZ}{Q:Flow->bh->Prop}(W5:bm.contains (.type "BaseException")=true)(hh:A.handled=aI)
  (h:wpAny M A x (λv nW=>∃e t d,v=.ref e/\nW.heap.get? C=aq (excClassObj nm q C N bs bm Il sn sub ab col dd k0 k1 k2 k3 k5 newId)/\
   nW.heap.get? e=aq {cls:=.ref C,dict:=d,data:=.fields #[.ref t,.none,.none,.none,.bool false,.none]}/\E (.ref e) nW) E s):
  wpAny M A (raiseStmt lJ (aq x) aI) Q E s:=by
 let Y5:(Value.ref C::bm).contains (.type "BaseException")=true:=by rw[List.contains_cons,W5,Bool.or_true]
 unfold raiseStmt;refine aY<|bI h (λv nW h₁=>?_) λ_ _ x=>x;refine hide λP9 mG=>?_;obtain⟨e,t,d',rfl,hC,he,hE⟩:=h₁;refine mG ?_;let hp:=nW.1;let g:=nW.2;let d:=nW.3;let tk:=nW.4;let os:=nW.5
 repeat(first|with_reducible refine gL he ?_|with_reducible refine gL hC ?_|(with_reducible refine gK hC ?_;rw[Y5])|wp_step)
 exact wpAny_raiseNew_none hh hE
section
variable{X:Cx}
def SS.ra(i w:Nat)(pn pc pl p:Pos):SS X where
 st:=.Raise (aq<|.Call (.Name (mV (X.nw.getD i (0,.free)).1) pn) [.Constant (.str (mV w)) 0 pc] [] pl) aI p
 ev:=λlK H E N C R=>BB X.nw[i]? λk=>X.gf k=aq G.bad/\xT X/\E H
 ok:=λlJ lK H E N C R c o h=>by
  obtain⟨k,hk,hg,hb,hE⟩:=BB.elim h
  .skip
   obtain⟨m,em,hb⟩:=xT.elim hb;rw[arm_exec_Raise];refine Tr.bind<|Tr.standAt ?_;have call:=(SE.ca (X:=X) i (oa.cons (SE.cs w pc) oa.nil y) pn pl).ok lJ lK H E (λr H'=>∃a tx d,r=.ref a/\H a=aI/\H tx=aI/\tx≠a/\H'=upd (upd H tx<|.tup [.nm w]) a (.exc tx (aq d))) c o (by show BB X.nw[i]? λk=>VV (X.gf k) λa=>aCall X a [.nm w] H _ E;rw[hk];show VV (X.gf k) _;rw[hg];exact aCall.intro em<|(hb _ _).mono (λ_ _ q=>q) λ_ q=>q.elim)
   show Tr _ _ (raiseStmt lJ (aq<|eval (.Call (.Name (mV (X.nw.getD i (0,.free)).1) pn) [.Constant (.str (mV w)) 0 pc] [] pl) lJ>>=λv=>ch p>>=λ_=>Pure.pure v) aI) _ _ _ _;unfold raiseStmt;refine Tr.assoc<|Tr.nK call λv x H' hv⟨a,tx,d,e1,e2,e3,e4,e5⟩=>Tr.leaf λS X' A s ok st [oS:oz s]=>?_;subst e1;obtain rfl:=hv.nF;have hC:=IN;have b4:=GC;have KX:G.K.In s.heap:=st.r.b.g.KX.keeps st.r.b.base;have hn:0<X.n:=("'3LS`oxF}1UT%#",em);have hx:H' a=aq (.exc tx (aq d)):=by rw[e5,lT]
   have he:=st.obj hx;have nA:St S X' lJ lK H s.heap:=st.less λb ob eb=>by
    have na:b≠a:=λz=>by rw[z,e2]at eb;cases eb
    have nt:b≠tx:=λz=>by rw[z,e3]at eb;cases eb
    rw[e5,lV na,lV nt];exact eb
   have z:=st.r.mut hx rfl;have ap:Apart S X' lJ H a:=⟨λkn=>by
    rcases kn with⟨ob,kn⟩|⟨ob,kn⟩|⟨ob,kn⟩|⟨p,hp,kn⟩
    .rw[z.1]at kn;cases kn
    .rw[z.2.1]at kn;cases kn
    .rw[e2]at kn;cases kn
    .exact z.2.2 p hp kn,λow=>by
    have:=(st.e.Bj ow).2.2.2.1;rw[hx]at this;cases this⟩
   show wpAny _ A (raiseStmt lJ (aq<|ch p>>=λ_=>Pure.pure<|.ref a) aI) _ _ s;refine LV b4 ok.1.2.2.2<|aY<|cp<|bg ⟨a,tx,aq d,rfl,KX _ _ hC,he,hn,?_⟩;exact OI nA (ok.2 hn).2 ap he rfl rfl rfl rfl hE
end
section
variable{X:Cx}
def axN(k:Nat)(K:AH->Prop)(H:AH)(a t:bp)(o:Option bp):Prop:=match o with
 |none=>OJ k/\∀d,K (upd H a<|.exc t (aq d))
 |some _=>False
def axJ(k:Nat)(K:AH->Prop)(H:AH)(a:bp)(o:AO):Prop:=match o with
 |.exc t o=>axN k K H a t o
 |_=>False
def axK(k:Nat)(K:AH->Prop)(y:V)(H:AH):Prop:=match y with
 |.ref a=>lW H a (axJ k K H a)
 |_=>False
def ST.ax(e:SE X)(k:Nat)(p:Pos):ST X where
 ex:=.Attribute e.ex (mV k) p
 ev:=λx lK H E K=>e.ev lK H E<|axK k<|K lK
 ok:=λlJ lK H E K v x c o hv h=>by
  rw[arm_assign_Attribute];refine Tr.nK (Tr.holding<|e.ok lJ lK H E _ c o h) λov y H' OA q=>Tr.bind<|Tr.standAt ?_;cases y<;>try exact False.elim q
  .rename_i a;obtain rfl:=OA.nF;obtain⟨ob,ho,q⟩:=q;cases ob<;>try exact False.elim q
   .rename_i t o';cases o'<;>try exact False.elim q
    refine Tr.bind<|Tr.holding<|Tr.mono (UO (K:=λH=>K lK H) q.1 ho hv q.2) λu l H2 jj=>?_;obtain⟨e3,q⟩:=jj;subst e3;exact Tr.leaf λS X' A s ok st=>wpAny_release ⟨l,H2,st,q⟩
end
section
variable{X:Cx}
theorem OP{M:Model}{A:Around}{lJ:Env}{w k:Nat}{pc pt pr:Pos}{s:bh}{Q:Flow->bh->Prop}{E:aZ->bh->Prop}
  (h:∀tk NB,Q (.ret (.ref s.heap.objs.size)) {s with heap:=s.heap.push {cls:=.type "tuple",data:=.seq [Value.str (mV w) tk].toArray},toks:=NB}):
  wpAny M A (execs [.Return (aq<|.Tuple [.Constant (.str (mV w)) 0 pc] k pt) pr] lJ) Q E s:=by
 rw[arm_execs_cons,arm_exec_Return];refine aY<|aY<|cp ?_;show wpAny M A (eval (.Tuple [.Constant (.str (mV w)) 0 pc] k pt) lJ>>=λv=>pure<|Flow.ret v) _ _ s;rw[arm_eval_Tuple];refine aY<|aY<|cp ?_;let e:backTo pt (starEach [.Constant (.str (mV w)) 0 pc] lJ)=[(false,eval (.Constant (.str (mV w)) 0 pc) lJ)]:=rfl;rw[e,spliced];refine aY<|aY ?_;refine wpAny_mkText ?_;simp only[Bool.false_eq_true,if_false];refine aY<|bg<|aY<|wpAny_holding ?_;rw[spliced];refine bg<|bg ?_;refine wpAny_newTuple ?_ (by rw[mA];show(1:Nat)<=16777216;exact id<|LA.u0 0x980000019412000 ("$"));exact bg<|bg<|h _ _
theorem UR{body orelse:Sem Flow}{hd:ExceptHandler}{lJ:Env}:tryStmt false body [hd] orelse [] lJ=(body.attempt>>=λr=>match r with
  |.ok .next=>orelse
  |.ok f=>pure f
  |.error e=>noteFrame e lJ>>=λ_=>setFlight e aI>>=λ_=>handleBy e lJ [hd]):=by rfl
def SS.tr(b:lZ X)(i w k:Nat)(pn pc pt pr ph p:Pos)(hc:X.nw.all (λq=>match q.2 with
  |.cell=>false
  |_=>true)=true):SS X where
 st:=.Try b.pP [.ExceptHandler (aq<|.Name (mV (X.nw.getD i (0,.free)).1) pn) aI [.Return (aq<|.Tuple [.Constant (.str (mV w)) 0 pc] k pt) pr] ph] [] [] p
 ev:=λlK H E N C R=>match X.nw[i]? with
  |some (j,.globalImplicit)=>X.gf j=aq G.bad/\xT X/\b.ev lK H (λH'=>∀t,H' t=aI->R (.ref t) (upd H' t<|.tup [.nm w])) N C R
  |_=>False
 ok:=λlJ lK H E N C R c o h=>by
  split at h
  .rename_i j hj;obtain⟨hg,hb,h⟩:=h;obtain⟨m,em,_⟩:=xT.elim hb;have ew:(X.nw.getD i (0,.free)).1=j:=by rw[List.getD_eq_getElem?_getD,hj];rfl
   rw[ew,arm_exec_Try];refine Tr.bind<|Tr.standAt ?_;intro S X' A s ok st oS;have wf:=st.e;rw[UR];refine mi<|Gb<|pk (b.ok lJ lK H _ N C R c o h S X' A s ok st) (λf s1(.mk l H1 (sm:=D6) wj q)=>?_) λe s1⟨hn,q⟩=>?_
   .cases f with
    |next=>exact m9 ⟨l,H1,wj,q⟩
    |cont=>exact m9 ⟨l,H1,wj,q⟩
    |brk=>exact q.elim
    |ret v=>exact m9 ⟨l,H1,wj,q⟩
   .obtain⟨o1,o2⟩:=ok.2 hn;refine nV.of<|aY<|bI (Bm (E':=λ_ _=>False) o1 o2 q) (λ_ s2 q2=>?_) λ_ _ q=>q.elim;refine aY<|bI (wS (E':=λ_ _=>False) q2) (λ_ s3 q3=>?_) λ_ _ q=>q.elim;have OE:oz s3:=q3.sm;obtain⟨ae,H',B,rfl,a2,a3,a4,⟨ns,a5⟩,⟨b1,b2,b3⟩,⟨a0,w1⟩,a7⟩:=q3;have fl:Heap.FlyingW B (lJ::S.map (·.1)) ae (.ref G.bad) a0 s3.heap:=⟨b1,b2,b3,w1⟩;have base:∀{h6:Heap},B.StaysIn h6->∀a ob,G.h₀.get? a=aq ob->h6.get? a=aq ob:=λk a ob q=>k a ob<|a2.base a ob q;have lx:lJ.kindOf (mV j)=aq .globalImplicit:=mM wf.nd (by rw[o];exact nX hj);obtain⟨g1,_⟩:=c.gf j _ hg;refine wpAny_handleBy_cons (codeAny_handlers_test ?_) (by intro q;cases q);refine Name_function_global wf.kind lx (loadGlobal_global (by rw[wf.Rc];exact a2.g.T.g.keeps<|base b1) (mg_of a2.g.KX a2.g.T.g g1) ?_)<|qO j;have hC:=IN;have c4:=GC;obtain⟨ob,hob,Z3⟩:=fl.there;obtain⟨hp,g,d,t,os⟩:=s3;refine wpAny_excMatches_sub_self ((a2.g.KX.keeps<|base b1) _ _ hC) hob Z3 c4<|codeAny_handlers_suite ?_;refine lands_againW fl λh6 fl6 up6=>OP λtk NB=>?_;obtain⟨d1,d2,d3,d4⟩:=fl6;have r6:Rep S X' H' h6:=⟨a2.mono d1,vj a3 up6⟩;have YE:St S X' lJ [] H' h6:=⟨r6,{wf with
     own:=a4
     ns:=⟨ns,up6.ns a5,λi v q=>by simp[getL]at q⟩
     cl:=λow x cc q1 q2=>by exfalso;have q1:=o▸q1;have m1:=PySem.mem_of_lookup q1;obtain⟨⟨w',kd⟩,m2,m3⟩:=List.mem_map.mp m1;obtain⟨_,rfl⟩:=Prod.mk.inj m3;have:=List.all_eq_true.mp hc _ m2;cases this
     NZ:=wf.NZ}⟩
    have st7:=YE.alloc (o:={cls:=.type "tuple",data:=.seq [Value.str (mV w) tk].toArray}) (ao:=.tup [.nm w]) ⟨_,0,bE _ rfl,.cons (.nm _ _) .nil,by rw[mA];show(1:Nat)<=16777216;exact id<|LA.u0 0x980000019412000 ("$")⟩;let UF:oz ⟨h6.push {cls:=.type "tuple",data:=.seq [Value.str (mV w) tk].toArray},g,d,NB,os⟩:=⟨OE.sm⟩;exact PQ.mk (sm:=UF) [] _ st7<|show SQ _ _ _ _ _ _ from⟨.ref h6.objs.size,.ref _,a7 _<|YE.qJ<|mL _⟩
  .exact h.elim
end
end Mine
end
section
open List renaming getElem?_eq_some_iff→bZ,length_map→cF,getD_eq_getElem?_getD→bq,filterMap_cons→gM,getElem?_map→cj,all_eq_true→bT,map_cons→bS,mem_map→ef
open PySem PySem.W PySem.Calls PyProof.Rows
namespace Mine
def isStar:Expr->Bool
 |.Starred ..=>true
 |_=>false
def Z4(is:List<|Nat×Pos)(vs:List Expr):Bool:=
 (is.length==2||is.length==3)&&vs.length==is.length&&!vs.any isStar&&(is.all λip=>ip.2.line==((is.head?.map λq=>q.2.line).getD 0))&&
  !(vs.all<|foldedForSure 8)&&!(vs.all<|constantsAlone 8)&&decide ((is.map (·.1)).Nodup)
theorem wY{α:Type}[BEq α][LawfulBEq α]:∀{l:List α},l.Nodup->l.eraseDups=l
 |[],_=>by simp
 |a::l,h=>by
  rw[List.eraseDups_cons];obtain⟨h1,h2⟩:=List.nodup_cons.mp h;have:l.filter (λb=>!b==a)=l:=List.filter_eq_self.mpr λb hb=>by have:b≠a:=λe=>h1<|e▸hb;simp[this]
  rw[this,wY h2]
theorem any_gen{f:Expr->Bool}{vs:List Expr}(h:vs.any isStar=false)(e:∀x,f x=isStar x):vs.any f=false:=by rw[show f=isStar from funext e];exact h
theorem OQ{α:Type}{f:Expr->Option Str}{g:α->Expr}{n:α->Str}:∀{l:List α},(∀x∈l,f (g x)=some (n x))->(l.map g).filterMap f=l.map n
 |[],_=>rfl
 |a::l,h=>by rw[bS];rw[gM];refine Eq.symm (h a<|.head _)▸?_;refine Eq.symm (OQ λx m=>h x<|.tail _ m)▸?_;rfl
theorem W6{X:Cx}(nd:(X.nw.map (·.1)).Nodup){is:List (Nat×Pos)}{tk k:Nat}{tp p:Pos}{vs:List Expr}(hk:is.all (λip=>match X.nw[ip.1]? with
   |some (_,.local)=>true
   |_=>false)=true)(hb:Z4 is vs=true)(lJ:Env)(o:oW X lJ)(fk:lJ.scope.kind=.function):
  swappedStores [.Tuple (is.map λip=>.Name (mV (X.nw.getD ip.1 (0,.free)).1) ip.2) tk tp] (.Tuple vs k p) lJ=pure (some<|is.map λip=>mV (X.nw.getD ip.1 (0,.free)).1):=by
 unfold Z4 at hb;simp only[Bool.and_eq_true]at hb;refine hide λP9 mG=>?_;obtain⟨⟨⟨⟨⟨⟨b1,b2⟩,b3⟩,b4⟩,b5⟩,b6⟩,b7⟩:=hb;refine mG ?_;have b7:=pN b7;have key:∀ip∈is,∃w,X.nw[ip.1]?=some (w,.local)/\(X.nw.getD ip.1 (0,.free)).1=w/\lJ.kindOf (mV w)=some .local:=λip m=>by
  have:=bT.mp hk ip m;cases h:X.nw[ip.1]? with
  |none=>rw[h]at this;cases this
  |some q=>
   obtain⟨w,kd⟩:=q;let this:=h▸this;cases kd<;>try exact xL this
   refine⟨w,rfl,by refine Eq.symm bq▸?_;rw[h];rfl,?_⟩;refine mM (i:=ip.1) ?_ ?_
   .rw[o];exact rk nd
   .rw[o];exact nX h
 let hl:(((is.map λip=>Expr.Name (mV (X.nw.getD ip.1 (0,.free)).1) ip.2).head?.map λx=>x.pos.line).getD 0)=((is.head?.map λq=>q.2.line).getD 0):=by cases is<;>rfl
 have hbk:lJ.blockKind=.function:=by unfold Env.blockKind;rw[fk];rfl
 let nds:(is.map λip=>mV (X.nw.getD ip.1 (0,.free)).1).Nodup:=by
  rw[show(is.map λip=>mV (X.nw.getD ip.1 (0,.free)).1)=(is.map (·.1)).map λi=>mV (X.nw.getD i (0,.free)).1 from by rw[List.map_map];rfl];rw[List.nodup_iff_pairwise_ne]at b7⊢;rw[List.pairwise_map];refine b7.imp_of_mem ?_;intro i j hi hj ne e;obtain⟨ip,m,rfl⟩:=ef.mp hi;obtain⟨jp,m',rfl⟩:=ef.mp hj;obtain⟨w,h1,h2,_⟩:=key ip m;obtain⟨w',Z5,YG,_⟩:=key jp m';let e:=h2▸e;let e:=YG▸e;let:=sE e;subst this;refine ne ?_;let a1:(X.nw.map (·.1))[ip.1]?=some w:=by refine Eq.symm cj▸?_;rw[h1];rfl
  let a2:(X.nw.map (·.1))[jp.1]?=some w:=by refine Eq.symm cj▸?_;rw[Z5];rfl
  let l1:=(bZ.mp a1).1;let g1:=(bZ.mp a1).2;let l2:=(bZ.mp a2).1;let g2:=(bZ.mp a2).2;exact(List.getElem_inj nd).mp (g1.trans g2.symm)
 let Um:vs.any isStar=false:=by simpa using b3
 unfold swappedStores;dsimp only;let hlen:(is.map λip=>Expr.Name (mV (X.nw.getD ip.1 (0,.free)).1) ip.2).length=is.length:=cF _;rw[hlen,hbk,hl,OQ (n:=λip=>mV (X.nw.getD ip.1 (0,.free)).1) (λip m=>by refine hide λP9 mG=>?_;obtain⟨w,_,e2,e3⟩:=key ip m;refine mG ?_;let e4:=bT.mp b4 ip m;simp only[e2,e3,e4];rfl),any_gen Um (λx=>by cases x<;>rfl),wY nds,cF]
 rw[beq_iff_eq]at b2;rw[b1];rw[b2];have b5':vs.all (foldedForSure 8)=false:=by simpa using b5
 have b6':vs.all (constantsAlone 8)=false:=by simpa using b6
 rw[b5'];rw[b6'];simp
section
variable{X:Cx}
def SS.av(t:ST X)(e:SE X)(p:Pos)(hs:(Nat.blt 0 (kE e.ex)&&!Nat.beq (kE e.ex) 3)=true)(hw:∀lJ,oW X lJ->lJ.scope.kind=.function->swappedStores [t.ex] e.ex lJ=pure none)(hp:Nat.blt 0 (kE t.ex)=true):SS X where
 st:=.Assign [t.ex] e.ex p
 ev:=λlK H E N _ _=>e.ev lK H E<|UB lK E t N
 ok:=λlJ lK H E N C R c o h=>by rw[arm_exec_Assign,show swapsWithSole [t.ex] e.ex p.line lJ=_ from ZI hs _ _ _,show assignEach [t.ex] lJ=_ from(Ny hp).as lJ []];refine Tr.bind<|Tr.standAt<|Tr.bind<|Tr.pure ?_;rw[mT ("")];refine Tr.nK (e.ok lJ lK H E _ c o h) λv x H' hv q=>?_;intro S X' A s ok st oS;rw[hw lJ o st.e.kind];revert S X' A s;show Tr _ _ (pure none>>=λw=>assignStores lJ v w _) _ _ _ _;refine Tr.bind<|Tr.pure ?_;show Tr _ _ (do assign t.ex lJ v;Pure.pure Flow.next) _ _ _ _;exact Tr.D8 (t.ok lJ lK H' E _ v x c o hv q) λl H2 q=>Tr.pure q
theorem Ti{α:Type}{f:Expr->Option Str}{g:α->Expr}{b:α->Bool}(hb:∀x,b x=true->f (g x)=none):∀{l:List α},l.any b=true->((l.map g).filterMap f).length<l.length
 |[],h=>by exact xL h
 |a::l,h=>by
  rw[bS];rw[gM];cases e:b a with
  |true=>
   rw[hb a e];have:=List.length_filterMap_le f<|l.map g;rw[cF]at this;exact Nat.lt_succ_of_le this
  |false=>
   rw[List.any_cons,e,Bool.false_or]at h;have:=Ti hb h;cases f (g a)with
   |none=>exact Nat.lt_succ_of_lt this
   |some x=>exact Nat.succ_lt_succ this
theorem Tj(nd:(X.nw.map (·.1)).Nodup){is:List (Nat×Pos)}{tp p:Pos}{tk k:Nat}{vs:List Expr}(hc:is.any (λip=>match X.nw[ip.1]? with
   |some (_,.cell)=>true
   |_=>false)=true)(lJ:Env)(o:oW X lJ)(fk:lJ.scope.kind=.function):
  swappedStores [.Tuple (is.map λip=>.Name (mV (X.nw.getD ip.1 (0,.free)).1) ip.2) tk tp] (.Tuple vs k p) lJ=pure none:=by
 unfold swappedStores;dsimp only;split
 .rfl
 .split
  .rfl
  .rw[mZ];rw[Bool.or_eq_true];left;rw[cF];refine bne_iff_ne.mpr (Nat.ne_of_lt (Ti (b:=λip=>match X.nw[ip.1]? with
   |some (_,.cell)=>true
   |_=>false) (λip hb=>?_) hc))
   split at hb
   .rename_i w hw;have ek:lJ.kindOf (mV (X.nw.getD ip.1 (0,.free)).1)=some .cell:=by
     rw[show(X.nw.getD ip.1 (0,.free)).1=w by rw[bq,hw];rfl];refine mM (i:=ip.1) ?_ ?_
     .rw[o];exact rk nd
     .rw[o];exact nX hw
    dsimp only;rw[ek];rfl
   .exact xL hb
def SS.IO(nd:(X.nw.map (·.1)).Nodup)(is:List<|Nat×Pos)(tk:Nat)(tp:Pos)(es:oa X)(k:Nat)(pt p:Pos)(hk:is.all (λip=>match X.nw[ip.1]? with
   |some (_,.local)=>true
   |_=>false)=true)(hb:Z4 is es.qx=true):SS X:=
 SS.sw is tk tp (SE.tp es k pt) p y (λlJ o fk=>W6 nd hk hb lJ o fk) hk
end
end Mine
end
section
open PyProof.Rows renaming Keyed→gO,SortSt→gP
open List renaming pairwise_append→gQ,getElem?_eq_some_iff→bZ,getElem?_drop→gS,length_take→eW,mem_reverse→gT,extract_eq_take_drop→gU,getElem?_eq_getElem→bU,append_assoc→gW,take_of_length_le→g6,getElem?_take→g9,mem_append→aE,drop_drop→hO,pairwise_iff_getElem→hU,mem_singleton→aH,length_append→cz,take_succ_eq_append_getElem→hV,mem_iff_getElem?→hZ,take_append_drop→ig,take_add→ii,reverse_perm→im,drop_of_length_le→io,pairwise_reverse→iu,foldl→iA,length→iD
open Array renaming getElem?_toList→dB,toList_append→fU,perm_iff_toList_perm→gV,length_toList→bf,toList_extract→gY,size_push→gZ,getElem?_extract→g7,size_extract→hG,size_append→hJ,toList_reverse→ij,toList_setIfInBounds→ik
open Option renaming some→aq,none→aI
open Int renaming le_trans→gR,le_of_lt→aV,le_refl→aS,not_lt→aT,le_of_eq→ir,lt_iff_le_and_ne→iw
open PySem renaming Value→aZ
open Nat renaming le_trans→gq,le_refl→dg,sub_add_cancel→gX,lt_of_lt_of_le→hH,zero_add→iq,le_of_lt→aP,le_antisymm→fJ,zero_le→aR,add_assoc→iy,sub_self→iB,le_of_lt_succ→iC,min_eq_left→iE,not_lt→fi
open Bool renaming false→ag,true→af,false_eq_true→iz
open PySem PyProof.Rows
namespace Mine.Sort
def kz(ky:aZ->Int)(xs:Array gO)(i:Nat):Int:=match xs[i]? with
 |some p=>ky p.1
 |none=>0
theorem rX{ky:aZ->Int}{xs ys:Array gO}{i j:Nat}(h:xs[i]?=ys[j]?):kz ky xs i=kz ky ys j:=by unfold kz;rw[h]
structure Cf where
 prog:Program
 w:World
 A:Around
 E:aZ->Shared->Prop
 s:Shared
def wq{α:Type}(C:Cf)(m:StateT gP Sem α)(Q:α->gP->Prop)(st:gP):Prop:=wpS (model C.prog C.w) C.A C.E C.s m Q st
section
variable{C:Cf}{α β:Type}{st:gP}{m:StateT gP Sem α}{f:α->StateT gP Sem β}{Q:β->gP->Prop}{P P':α->gP->Prop}
theorem mv{a:α}(h:P a st):wq C (pure a) P st:=wpS_pure h
theorem nq(h:wq C m (λa nA=>wq C (f a) Q nA) st):wq C (m>>=f) Q st:=wpS_bind h
theorem rp(h:wq C m P st)(hq:∀a nA,P a nA->P' a nA):wq C m P' st:=wpS_mono h hq
theorem US{P:gP->gP->Prop}(h:P st st):wq C get P st:=wpS_get h
theorem Ec{f:gP->gP}{P:PUnit->gP->Prop}(h:P ⟨⟩<|f st):wq C (modify f) P st:=wpS_modify h
theorem KQ{m:Sem α}(h:wpAny (model C.prog C.w) C.A m (λa s'=>s'=C.s/\P a st) C.E C.s):wq C (liftM m) P st:=wpS_lift h
theorem Dc{f:gP->StateT gP Sem β}(h:wq C (f st) Q st):wq C (get>>=f) Q st:=nq<|US h
theorem xU{g:gP->gP}{f:PUnit->StateT gP Sem β}(h:wq C (f ⟨⟩) Q<|g st):wq C (modify g>>=f) Q st:=nq<|Ec h
theorem Ed{t:String}{f:Unit->StateT gP Sem β}(h:wq C (f ()) Q st):wq C (liftM (rule t)>>=f) Q st:=nq<|KQ<|wpAny_rule ⟨rfl,h⟩
theorem ot{β:Type}{a b:Nat}{f:Nat->β->StateT gP Sem (ForInStep β)}(I:Nat->β->gP->Prop){Q:β->gP->Prop}
  (W7:∀i c st,a<=i->i<b->I i c st->wq C (f i c) (λr nA=>match r with|.done c'=>Q c' nA|.yield c'=>I (i+1) c' nA) st)
  (UL:∀c st,I (max a b) c st->Q c st){c:β}{st:gP}(h:I a c st):wq C (forIn [a:b] c f) Q st:=wpS_forRange I W7 UL h
end
structure Ord(C:Cf)(kd:SortKind)(ky:aZ->Int)(a₀:Array gO):Prop where
 lt:∀x y,x∈a₀.toList->y∈a₀.toList->wpAny (model C.prog C.w) C.A (keyLt' kd x.1 y.1).attempt (λr s'=>s'=C.s/\r=.ok (decide<|ky x.1<ky y.1)) C.E C.s
structure SB(kd:SortKind)(a₀:Array gO)(st:gP):Prop where
 perm:(arrOf st).Perm a₀
 kind:kindOf st=kd
 failed:failedOf st=aI
theorem SB.size{kd:SortKind}{a₀:Array gO}{st:gP}(h:SB kd a₀ st):(arrOf st).size=a₀.size:=h.perm.size_eq
theorem SB.setArr{kd:SortKind}{a₀:Array gO}{st:gP}(h:SB kd a₀ st){xs:Array gO}(hp:xs.Perm<|arrOf st):SB kd a₀ (setArr st xs):=⟨hp.trans h.perm,h.kind,h.failed⟩
theorem SB.mem{kd:SortKind}{a₀:Array gO}{st:gP}(h:SB kd a₀ st){i:Nat}(hi:i<a₀.size):∃p,(arrOf st)[i]?=aq p/\p∈a₀.toList:=by
 let LS:i<(arrOf st).size:=by rw[h.size];exact hi
 exact⟨(arrOf st)[i],getElem?_pos _ i LS,(gV.mp h.perm).mem_iff.mp (by simp)⟩
section
variable{C:Cf}{kd:SortKind}{ky:aZ->Int}{a₀:Array gO}
theorem OR(O:Ord C kd ky a₀){st:gP}{x y:gO}{Q:Option Bool->gP->Prop}(hk:kindOf st=kd)(hx:x∈a₀.toList)(hy:y∈a₀.toList)(h:Q (aq<|decide<|ky x.1<ky y.1) st):
  wq C (lt' x y) Q st:=by
 rw[lt'_eq];refine Dc ?_;rw[hk];refine nq<|KQ<|wpAny_mono (O.lt x y hx hy) (λr s'⟨e1,e2⟩=>⟨e1,?_⟩) λ_ _ q=>q;subst e2;exact mv h
theorem Z6(O:Ord C kd ky a₀){α:Type}{st:gP}{x y:gO}{f:Option Bool->StateT gP Sem α}{Q:α->gP->Prop}(hk:kindOf st=kd)(hx:x∈a₀.toList)(hy:y∈a₀.toList)(h:wq C (f<|aq<|decide<|ky x.1<ky y.1) Q st):wq C (lt' x y>>=f) Q st:=nq<|OR O hk hx hy h
theorem RL{arr:Array gO}{i:Nat}{p:gO}{st:gP}{Q:gO->gP->Prop}(e:arr[i]?=aq p)(h:Q p st):wq C (elem' arr i) Q st:=by rw[elem'_eq,e];exact mv h
theorem tf{α:Type}{arr:Array gO}{i:Nat}{p:gO}{st:gP}{f:gO->StateT gP Sem α}{Q:α->gP->Prop}(e:arr[i]?=aq p)(h:wq C (f p) Q st):wq C (elem' arr i>>=f) Q st:=nq<|RL e h
theorem RM(O:Ord C kd ky a₀){st:gP}{i j:Nat}{Q:Option Bool->gP->Prop}(hB:SB kd a₀ st)(hi:i<a₀.size)(hj:j<a₀.size)
  (h:Q (aq<|decide<|kz ky (arrOf st) i<kz ky (arrOf st) j) st):wq C (ltAt' i j) Q st:=by
 obtain⟨p,e1,m1⟩:=hB.mem hi;obtain⟨q,e2,m2⟩:=hB.mem hj;rw[ltAt'_eq];refine Dc ?_;refine tf e1<|tf e2<|OR O hB.kind m1 m2 ?_;unfold kz at h;rw[e1,e2]at h;exact h
theorem Ee(O:Ord C kd ky a₀){α:Type}{st:gP}{i j:Nat}{f:Option Bool->StateT gP Sem α}{Q:α->gP->Prop}(hB:SB kd a₀ st)(hi:i<a₀.size)(hj:j<a₀.size)
  (h:wq C (f<|aq<|decide<|kz ky (arrOf st) i<kz ky (arrOf st) j) Q st):wq C (ltAt' i j>>=f) Q st:=nq<|RM O hB hi hj h
def E6:Bool->gO->Array gO->Nat->Nat->Nat->StateT gP Sem (Option Nat):=sortPriv% PySem.Builtin.gallop
end
section
variable{C:Cf}{kd:SortKind}{ky:aZ->Int}{a₀:Array gO}
def Tk(left:Bool)(kx:gO)(arr:Array gO)(base i:Nat):StateT gP Sem (Option Bool):=do
 let x<-elem' arr (base+i)
 if left then lt' x kx else return(<-lt' kx x).map (!·)
theorem GD(left:Bool)(kx:gO)(arr:Array gO)(base n lP:Nat):E6 left kx arr base n lP=(do
 let mut A2:=0
 let mut ND:=1
 let mut lo:=0
 let mut hi:=0
 let some right<-Tk left kx arr base lP|return aI
 if right then
  let BH:=n-lP
  for _ in [0:n] do
   if ND≥BH then break
   let some more<-Tk left kx arr base (lP+ND)|return aI
   if !more then break
   A2:=ND
   ND:=2*ND+1
  lo:=lP+A2+1
  hi:=lP+min ND BH
 else
  let BH:=lP+1
  for _ in [0:n] do
   if ND≥BH then break
   let some found<-Tk left kx arr base (lP-ND)|return aI
   if found then break
   A2:=ND
   ND:=2*ND+1
  lo:=lP+1-min ND BH
  hi:=lP-A2
 for _ in [0:n] do
  if lo≥hi then break
  let m:=lo+(hi-lo)/2
  let some more<-Tk left kx arr base m|return aI
  if more then lo:=m+1 else hi:=m
 return aq hi):=rfl
def bz(left:Bool)(k v:Int):Bool:=if left then decide (v<k)else !decide (k<v)
structure Str(ky:aZ->Int)(a₀:Array gO)(arr:Array gO)(base n:Nat):Prop where
 mem:∀i,i<n->∃p,arr[base+i]?=aq p/\p∈a₀.toList
 ord:∀i j,i<=j->j<n->kz ky arr (base+i)<=kz ky arr (base+j)
theorem RN{left:Bool}{k v u:Int}(h:v<=u)(hb:bz left k u=af):bz left k v=af:=by unfold bz at*;cases left<;>simp at*<;>omega
theorem OS{left:Bool}{k v u:Int}(h:v<=u)(hb:bz left k v=ag):bz left k u=ag:=by unfold bz at*;cases left<;>simp at*<;>omega
theorem UT(O:Ord C kd ky a₀){left:Bool}{kx:gO}{arr:Array gO}{base n i:Nat}{st:gP}{Q:Option Bool->gP->Prop}
  (hk:kindOf st=kd)(hx:kx∈a₀.toList)(hS:Str ky a₀ arr base n)(hi:i<n)
  (h:Q (aq<|bz left (ky kx.1)<|kz ky arr<|base+i) st):wq C (Tk left kx arr base i) Q st:=by
 obtain⟨p,e,m⟩:=hS.mem i hi;unfold Tk;refine tf e ?_;let hz:kz ky arr (base+i)=ky p.1:=by unfold kz;rw[e]
 rw[hz]at h;cases left
 .simp only[iz,if_false];refine Z6 O hk hx m ?_;exact mv h
 .simp only[if_true];exact OR O hk m hx h
theorem RP(O:Ord C kd ky a₀){α:Type}{left:Bool}{kx:gO}{arr:Array gO}{base n i:Nat}{st:gP}{f:Option Bool->StateT gP Sem α}{Q:α->gP->Prop}
  (hk:kindOf st=kd)(hx:kx∈a₀.toList)(hS:Str ky a₀ arr base n)(hi:i<n)
  (h:wq C (f<|aq<|bz left (ky kx.1)<|kz ky arr<|base+i) Q st):wq C (Tk left kx arr base i>>=f) Q st:=nq<|UT O hk hx hS hi h
theorem lm{l r n:Nat}(h:r-l<=n-max 0 n):r<=l:=Nat.le_of_sub_eq_zero (Nat.le_zero.mp (by rw[Nat.zero_max,iB]at h;exact h))
theorem mlt{n k:Nat}(h:max 0 n+1<=k):¬k<n:=Nat.not_lt_of_le<|gq (Nat.le_max_right 0 n)<|Nat.le_of_succ_le h
theorem hf3{l r n x:Nat}(h:r-l<=n-x)(c:¬l≥r):l+(r-l)/2-l<=n-(x+1):=by rw[Nat.add_sub_cancel_left];exact Nat.le_pred_of_lt<|hH (Nat.div_lt_self (Nat.sub_pos_of_lt<|Nat.lt_of_not_le c)<|dg 2) h
theorem LW(O:Ord C kd ky a₀){left:Bool}{kx:gO}{arr:Array gO}{base n lP:Nat}{st:gP}{Q:Option Nat->gP->Prop}
  (hk:kindOf st=kd)(hx:kx∈a₀.toList)(hS:Str ky a₀ arr base n)(hn:lP<n)
  (h:∀k,k<=n->(∀i,i<k->bz left (ky kx.1) (kz ky arr<|base+i)=af)->(∀i,k<=i->i<n->bz left (ky kx.1) (kz ky arr<|base+i)=ag)->Q (aq k) st):
  wq C (E6 left kx arr base n lP) Q st:=by
 rw[GD];obtain⟨B,hB⟩:∃B:Nat->Bool,∀i,bz left (ky kx.1) (kz ky arr<|base+i)=B i:=⟨_,λ_=>rfl⟩;have mono:∀i j,i<=j->j<n->B j=af->B i=af:=λi j uE hj hb=>(hB i).symm.trans (RN (hS.ord i j uE hj)<|(hB j).trans hb);have OT:∀i j,i<=j->j<n->B i=ag->B j=ag:=λi j uE hj hb=>(hB j).symm.trans (OS (hS.ord i j uE hj)<|(hB i).trans hb);simp only[hB]at h;have bin:∀lo hi,lo<=hi->hi<=n->(∀i,i<lo->B i=af)->(∀i,hi<=i->i<n->B i=ag)->
   wq C (do
    let mut lo:=lo
    let mut hi:=hi
    for _ in [0:n] do
     if lo≥hi then break
     let m:=lo+(hi-lo)/2
     let some more<-Tk left kx arr base m|return aI
     if more then lo:=m+1 else hi:=m
    return aq hi) Q st:=by
  intro lo hi h1 h2 h3 h4;refine nq (rp (ot
   (I:=λx c nA=>nA=st/\∃l r,c=(aI,l,r)/\l<=r/\r<=n/\r-l<=n-x/\(∀i,i<l->B i=af)/\(∀i,r<=i->i<n->B i=ag))
   (Q:=λc nA=>nA=st/\∃r,r<=n/\(∃l,c=(aI,l,r))/\(∀i,i<r->B i=af)/\(∀i,r<=i->i<n->B i=ag)) ?_ ?_ ⟨rfl,lo,hi,rfl,h1,h2,("'/%:Ic4FT]9DdIw^/}y:oXe8(#",h2,rfl,rfl),h3,h4⟩) ?_)
  .rintro x c nA _ Rk ⟨rfl,l,r,rfl,a1,a2,a3,a4,a5⟩;dsimp only;by_cases BJ:l≥r
   .rw[mZ BJ];exact mv ⟨rfl,r,a2,⟨_,rfl⟩,λi LS=>a4 i ("Cl[{j`-M<MAz&#",BJ,LS),a5⟩
   .rw[mT BJ];refine RP O hk hx hS (n:=n) ("*'gr+_8;<I,U;P$b|9C`nElw?rDv(#",a2,BJ,("%"),rfl) ?_;rw[hB];dsimp only;cases hb:B (l+(r-l)/2)
    .exact mv ⟨rfl,_,_,rfl,("yu0nqh/%#"),("*'gr(a>x}tK.CZFLf>d{G}|#/&kb(#",a2,BJ,("%"),rfl),hf3 a3 BJ,a4,λi i1 i2=>OT _ _ i1 i2 hb⟩
    .exact mv ⟨rfl,_,_,rfl,("(7KZ9;2lU#$IhrM]O4#P)lElw'#",BJ,("%"),rfl),("(Dx}*=wu_%#",a2),("%,)W?u^JB<W?C?mWS)5~Rp6KvDF>f$~&Y7vN[QMAYCXzIV+MSu^n)mCf6%*&,#",a3,rfl,rfl,rfl,rfl),λi i1=>mono _ (l+(r-l)/2) ("*n({sl^JY}:{RK&#",i1) ("*'gr+_8;<I,U;P$b|9C`nElw?rDv(#",a2,BJ,("%"),rfl) hb,a5⟩
  .rintro c nA ⟨rfl,l,r,rfl,a1,a2,a3,a4,a5⟩;exact⟨rfl,r,a2,⟨_,rfl⟩,λi LS=>a4 i<|hH LS<|lm a3,a5⟩
  .rintro c nA ⟨rfl,r,a2,⟨l,rfl⟩,a4,a5⟩;exact mv<|h r a2 a4 a5
 dsimp only at bin⊢;refine RP O hk hx hS hn ?_;rw[hB];cases hb:B lP
 .simp only[iz,if_false];refine nq (rp (ot
   (I:=λx c nA=>nA=st/\∃la of,c=(aI,la,of)/\la<of/\x+1<=of/\la<lP+1/\B (lP-la)=ag)
   (Q:=λc nA=>nA=st/\∃la of,c=(aI,la,of)/\la<of/\la<lP+1/\B (lP-la)=ag/\(of<lP+1->B (lP-of)=af)) ?_ ?_
   ⟨rfl,0,1,rfl,("nxyO-##"),("5cH,1k'##"),("yut<Lcb$#"),hb⟩) ?_)
  .rintro x c nA _ Rk ⟨rfl,la,of,rfl,a1,a2,a3,a4⟩;dsimp only;by_cases BJ:of≥lP+1
   .rw[mZ BJ];exact mv ⟨rfl,la,of,rfl,a1,a3,a4,λhh=>by exact(LA.u180 0x14d048030810809006042 ("$") BJ hh).elim⟩
   .rw[mT BJ];refine RP O hk hx hS (n:=n) ("W<CVc-j=DWDEL5_m'#",hn,rfl) ?_;rw[hB];dsimp only;cases NC:B (lP-of)
    .exact mv ⟨rfl,of,_,rfl,("8MwNBaM=<$#"),("%($fDn3<vG'%<NNS0H%#",a2),("(P$0t>sa}-`K3%#",BJ),NC⟩
    .exact mv ⟨rfl,la,of,rfl,a1,a3,a4,λ_=>NC⟩
  .rintro c nA ⟨rfl,la,of,rfl,a1,a2,a3,a4⟩;exact⟨rfl,la,of,rfl,a1,a3,a4,λhh=>absurd (Nat.lt_of_le_of_lt (iC hh) hn)<|mlt a2⟩
  .rintro c nA ⟨rfl,la,of,rfl,a1,a3,a4,a5⟩;dsimp only;refine bin _ _ ("(D~eA#KgOyPpIR4{hxF}*ZUu(/D0A8F*{ukp]Vuh+)#",a1,("%"),rfl,rfl) ("03fV$I^:b^V5.xVP'#",hn,rfl) (λi hi=>?_) λi i1 i2=>OT _ _ i1 i2 a4;by_cases ho:of<lP+1
   .exact mono _ (lP-of) ("(b&L%,KmgWrDwNpzq/DlUpV,wE+uslk6kU5la01K)KcZz]ENKpq)#",hi,("%"),("%"),rfl) ("W<CVc-j=DWDEL5_m'#",hn,rfl)<|a5 ho
   .exact(LA.u450 0x225031e4481114163c894401230c361230c409e09186202c1000285 ("$") hi ho ("%") rfl).elim
 .simp only[if_true];refine nq (rp (ot
   (I:=λx c nA=>nA=st/\∃la of,c=(aI,la,of)/\la<of/\x+1<=of/\la<n-lP/\B (lP+la)=af)
   (Q:=λc nA=>nA=st/\∃la of,c=(aI,la,of)/\la<of/\la<n-lP/\B (lP+la)=af/\(of<n-lP->B (lP+of)=ag)) ?_ ?_
   ⟨rfl,0,1,rfl,("nxyO-##"),("5cH,1k'##"),("*%Im2$_[H<kzp{bU&#",hn,rfl),hb⟩) ?_)
  .rintro x c nA _ Rk ⟨rfl,la,of,rfl,a1,a2,a3,a4⟩;dsimp only;by_cases BJ:of≥n-lP
   .rw[mZ BJ];exact mv ⟨rfl,la,of,rfl,a1,a3,a4,λhh=>by exact(LA.u180 0x534001021000042 ("$") BJ hh).elim⟩
   .rw[mT BJ];refine RP O hk hx hS (n:=n) ("<uBXR?-2NW^QMV/3Jm'#",BJ,rfl) ?_;rw[hB];cases NC:B (lP+of)
    .exact mv ⟨rfl,la,of,rfl,a1,a3,a4,λ_=>NC⟩
    .exact mv ⟨rfl,of,_,rfl,("8MwNBaM=<$#"),("%($fDn3<vG'%<NNS0H%#",a2),("zl)+wv0v/%#",BJ),NC⟩
  .rintro c nA ⟨rfl,la,of,rfl,a1,a2,a3,a4⟩;exact⟨rfl,la,of,rfl,a1,a3,a4,λhh=>absurd (hH hh<|Nat.sub_le n lP)<|mlt a2⟩
  .rintro c nA ⟨rfl,la,of,rfl,a1,a3,a4,a5⟩;dsimp only;refine bin _ _ ("44cRd8'7x}RIeD*]2%FBx9m.5((#",a1,a3,rfl) ("AGAnF}7JjENT<z60*%ww7AdO(#",hn,("%"),rfl) (λi hi=>mono _ (lP+la) ("*n({sl^JY}:{RK&#",hi) ("&2hOtL+K.1SsGu~?K{'#",a3,rfl) a4) λi i1 i2=>?_;by_cases ho:of<n-lP
   .exact OT (lP+of) _ ("6G960R?74$hX]f8IKsppd7<(#",i1,ho,rfl) i2<|a5 ho
   .exact(LA.u540 0x2052402c7a3c40563d1e25141007c00305b2820161810110080060a6 ("$") i1 i2 ho rfl rfl).elim
theorem wd(O:Ord C kd ky a₀){α:Type}{left:Bool}{kx:gO}{arr:Array gO}{base n lP:Nat}{st:gP}{f:Option Nat->StateT gP Sem α}{Q:α->gP->Prop}
  (hk:kindOf st=kd)(hx:kx∈a₀.toList)(hS:Str ky a₀ arr base n)(hn:lP<n)
  (h:∀k,k<=n->(∀i,i<k->bz left (ky kx.1) (kz ky arr<|base+i)=af)->(∀i,k<=i->i<n->bz left (ky kx.1) (kz ky arr<|base+i)=ag)->wq C (f<|aq k) Q st):
  wq C (E6 left kx arr base n lP>>=f) Q st:=nq<|LW O hk hx hS hn h
end
structure MI(R:gO->gO->Prop)(all out ra rb:List gO):Prop where
 perm:(out++ra++rb).Perm all
 so:out.Pairwise R
 le:∀x∈out,∀y∈ra++rb,R x y
theorem MI.uv{R:gO->gO->Prop}{all out ra rb:List gO}{l:List gO}(h:MI R all out (l++ra) rb)(hl:(l++ra).Pairwise R)(hb:∀x∈l,∀y∈rb,R x y):MI R all (out++l) ra rb:=by
 refine⟨by simpa[gW]using h.perm,?_,?_⟩
 .refine gQ.mpr ⟨h.so,(gQ.mp hl).1,λx hx y hy=>h.le x hx y (by simp[hy])⟩
 .intro x hx y hy;rcases aE.mp hx with h1|h1
  .exact h.le x h1 y (by rcases aE.mp hy with h|h<;>simp[h])
  .rcases aE.mp hy with h2|h2
   .exact(gQ.mp hl).2.2 x h1 y h2
   .exact hb x h1 y h2
theorem MI.comm{R:gO->gO->Prop}{all out ra rb:List gO}(h:MI R all out ra rb):MI R all out rb ra:=by refine⟨?_,h.so,λx hx y hy=>h.le x hx y (by rcases aE.mp hy with h|h<;>simp[h])⟩;refine List.Perm.trans ?_ h.perm;rw[gW,gW];exact List.Perm.append_left _ List.perm_append_comm
theorem MI.vy{R:gO->gO->Prop}{all out ra rb:List gO}{l:List gO}(h:MI R all out ra<|l++rb)(hl:(l++rb).Pairwise R)(hb:∀x∈l,∀y∈ra,R x y):MI R all (out++l) ra rb:=
 (h.comm.uv hl hb).comm
theorem MI.done{R:gO->gO->Prop}{all out ra rb:List gO}(h:MI R all out ra rb)(ha:ra.Pairwise R)(hb:rb.Pairwise R)(vX:∀x∈ra,∀y∈rb,R x y):(out++ra++rb).Pairwise R/\(out++ra++rb).Perm all:=by refine⟨?_,h.perm⟩;rw[gW];exact gQ.mpr ⟨h.so,gQ.mpr ⟨ha,hb,vX⟩,h.le⟩
section lists
variable{α:Type}
theorem qk{l:List α}{n:Nat}{x:α}(h:x∈l.drop n):∃i,n<=i/\l[i]?=aq x:=by obtain⟨i,hi⟩:=hZ.mp h;rw[gS]at hi;exact⟨n+i,("yu0nqh/%#"),hi⟩
theorem oh{l:List α}{n:Nat}{x:α}(h:x∈l.take n):∃i,i<n/\l[i]?=aq x:=by
 obtain⟨i,hi⟩:=hZ.mp h;rw[g9]at hi;split at hi
 .exact⟨i,("(Dx}2OE?c%#",(by assumption)),hi⟩
 .cases hi
theorem tg{l:List α}(i k:Nat):(l.drop i).take k++l.drop (i+k)=l.drop i:=by rw[<-hO];exact ig k _
theorem drop_one{l:List α}{i:Nat}{x:α}(h:l[i]?=aq x):[x]++l.drop (i+1)=l.drop i:=by let hi:=(bZ.mp h).1;let e:=(bZ.mp h).2;rw[List.drop_eq_getElem_cons hi,e];rfl
end lists
def Le(ky:aZ->Int)(x y:gO):Prop:=ky x.1<=ky y.1
def Ge(ky:aZ->Int)(x y:gO):Prop:=ky y.1<=ky x.1
structure wm(ky:aZ->Int)(a₀:Array gO)(a:Array gO):Prop where
 mem:∀(i:Nat)(p:gO),a.toList[i]?=aq p->p∈a₀.toList
 ord:∀(i j:Nat)(p q:gO),i<=j->a.toList[i]?=aq p->a.toList[j]?=aq q->ky p.1<=ky q.1
theorem wm.drop{ky:aZ->Int}{a₀ a:Array gO}(h:wm ky a₀ a)(i:Nat):(a.toList.drop i).Pairwise (Le ky):=by
 refine hU.mpr λm n hm hn Z7=>?_;refine h.ord (i+m) (i+n) _ _ ("BsWaWP,VMN<n&#",Z7) ?_ ?_
 .rw[<-gS];exact bU hm
 .rw[<-gS];exact bU hn
theorem wm.take{ky:aZ->Int}{a₀ a:Array gO}(h:wm ky a₀ a)(i:Nat):(a.toList.take i).reverse.Pairwise (Ge ky):=by
 rw[iu];refine hU.mpr λm n hm hn Z7=>?_;let KI:m<i:=by rw[eW]at hm;exact("'+S*(&tc87Gc)(hw'#",hm,rfl)
 let YF:n<i:=by rw[eW]at hn;exact("'+S*(&tc87Gc)(hw'#",hn,rfl)
 refine h.ord m n _ _ ("(Dx}*=w{B%#",Z7) ?_ ?_
 .rw[<-bU hm,g9,mZ KI];try rw[g9,mZ KI]
 .rw[<-bU hn,g9,mZ YF];try rw[g9,mZ YF]
inductive Z8(a₀ a:Array gO)(i:Nat):Prop
 |mk(p:gO)(e:a[i]?=aq p)(l:a.toList[i]?=aq p)(m:p∈a₀.toList)
theorem wm.at{ky:aZ->Int}{a₀ a:Array gO}(h:wm ky a₀ a){i:Nat}(hi:i<a.size):Z8 a₀ a i:=
 let e:a[i]?=aq a[i]:=getElem?_pos a i hi;let l:=dB.trans e
 ⟨a[i],e,l,h.mem i _ l⟩
theorem LX{C:Cf}{a₀ a:Array gO}{i:Nat}{st:gP}{Q:gO->gP->Prop}(h:Z8 a₀ a i)(k:∀p,a[i]?=aq p->a.toList[i]?=aq p->p∈a₀.toList->Q p st):wq C (elem' a i) Q st:=by obtain⟨p,e,l,m⟩:=h;rw[elem'_eq,e];exact mv<|k p e l m
theorem rq{C:Cf}{α:Type}{a₀ a:Array gO}{i:Nat}{st:gP}{f:gO->StateT gP Sem α}{Q:α->gP->Prop}(h:Z8 a₀ a i)(k:∀p,a[i]?=aq p->a.toList[i]?=aq p->p∈a₀.toList->wq C (f p) Q st):wq C (elem' a i>>=f) Q st:=nq<|LX h k
theorem vA{ky:aZ->Int}{a:Array gO}{i:Nat}{p:gO}(h:a.toList[i]?=aq p):kz ky a i=ky p.1:=by unfold kz;rw[<-dB,h]
theorem wm.str{ky:aZ->Int}{a₀ a:Array gO}(h:wm ky a₀ a)(b n:Nat)(hb:b+n<=a.size):Str ky a₀ a b n:=by
 constructor
 .intro i hi;obtain⟨p,e1,_,e3⟩:=h.at (i:=b+i) ("%%|HYu??N>71KJzw'#",hb,hi);exact⟨p,e1,e3⟩
 .intro i j uE hj;obtain⟨p,e1,e2,e3⟩:=h.at (i:=b+i) (".k6Ekn1en+|lz'6FpGp(#",hb,uE,hj);obtain⟨q,f1,f2,f3⟩:=h.at (i:=b+j) ("%%|HYu??N>71KJzw'#",hb,hj);rw[vA e2,vA f2];exact h.ord _ _ p q ("BsWaWP,VMN7.&#",uE) e2 f2
structure qB(st nA:gP):Prop where
 arr:arrOf nA=arrOf st
 kind:kindOf nA=kindOf st
 pend:pendingOf nA=pendingOf st
 failed:failedOf nA=failedOf st
theorem qB.refl(st:gP):qB st st:=⟨rfl,rfl,rfl,rfl⟩
theorem qB.trans{a b c:gP}(h:qB a b)(k:qB b c):qB a c:=⟨k.arr.trans h.arr,k.kind.trans h.kind,k.pend.trans h.pend,k.failed.trans h.failed⟩
def OU(g:Nat):StateT gP Sem Unit:=sortPriv% PySem.Builtin.setMinGallop
 |>λf=>f g
theorem LY{C:Cf}{g:Nat}{st:gP}{Q:Unit->gP->Prop}(h:∀nA,qB st nA->Q () nA):wq C (OU g) Q st:=
 Ec (f:=λs=>SortSt.mk' (kindOf s) (arrOf s) (pendingOf s) g<|failedOf s) (h _ ⟨rfl,rfl,rfl,rfl⟩)
theorem A9{C:Cf}{α:Type}{g:Nat}{st:gP}{f:Unit->StateT gP Sem α}{Q:α->gP->Prop}(h:∀nA,qB st nA->wq C (f ()) Q nA):wq C (OU g>>=f) Q st:=nq<|LY h
abbrev xV(ky:aZ->Int)(a b out:Array gO)(ia ib:Nat):Prop:=MI (Le ky) (a.toList++b.toList) out.toList (a.toList.drop ia)<|b.toList.drop ib
structure OV(ky:aZ->Int)(a b out:Array gO)(ia ib:Nat):Prop where
 la:ia+1<a.size
 lb:ib<b.size
 sz:out.size=ia+ib
 p:xV ky a b out ia ib
abbrev Res(ky:aZ->Int)(a b r:Array gO):Prop:=r.toList.Pairwise (Le ky)/\r.toList.Perm (a.toList++b.toList)
section
variable{ky:aZ->Int}{a₀ a b out:Array gO}{ia ib k:Nat}{x:gO}
theorem xV.uv(h:xV ky a b out ia ib)(ha:wm ky a₀ a)(e:a.toList[ia]?=aq x)(hx:∀(j:Nat) q,ib<=j->b.toList[j]?=aq q->ky x.1<=ky q.1):xV ky a b (out.push x) (ia+1) ib:=by
 let h':=h;unfold xV at h'⊢;rw[<-drop_one e]at h';let:=h'.uv (by rw[drop_one e];exact ha.drop ia) (λu hu v hv=>by obtain⟨j,j1,j2⟩:=qk hv;rw[aH.mp hu];exact hx j v j1 j2)
 simpa using this
theorem xV.vy(h:xV ky a b out ia ib)(hb:wm ky a₀ b)(e:b.toList[ib]?=aq x)(hx:∀(j:Nat) q,ia<=j->a.toList[j]?=aq q->ky x.1<=ky q.1):xV ky a b (out.push x) ia (ib+1):=by
 let h':=h;unfold xV at h'⊢;rw[<-drop_one e]at h';let:=h'.vy (by rw[drop_one e];exact hb.drop ib) (λu hu v hv=>by obtain⟨j,j1,j2⟩:=qk hv;rw[aH.mp hu];exact hx j v j1 j2)
 simpa using this
theorem BK(a:Array gO)(i k:Nat):(a.extract i<|i+k).toList=(a.toList.drop i).take k:=by rw[gY,gU];congr 1;exact("1'dSA`gbnZ[#n1tA&#",rfl)
theorem xV.IP(h:xV ky a b out ia ib)(ha:wm ky a₀ a)(hx:∀(i j:Nat) p q,ia<=i->i<ia+k->ib<=j->a.toList[i]?=aq p->b.toList[j]?=aq q->ky p.1<=ky q.1):xV ky a b (out++a.extract ia (ia+k)) (ia+k) ib:=by
 have h':=h;unfold xV at h'⊢;rw[<-tg ia k]at h';let:=h'.uv (by rw[tg];exact ha.drop ia) (λu hu v hv=>by obtain⟨j,j1,j2⟩:=qk hv;obtain⟨i,i1,i2⟩:=oh hu;rw[gS]at i2;exact hx _ j u v ("yu0nqh/%#") ("BsWaWP,_^w_2&#",i1) j1 i2 j2)
 rw[fU,BK];exact this
theorem xV.IQ(h:xV ky a b out ia ib)(hb:wm ky a₀ b)(hx:∀(i j:Nat) p q,ib<=i->i<ib+k->ia<=j->b.toList[i]?=aq p->a.toList[j]?=aq q->ky p.1<=ky q.1):xV ky a b (out++b.extract ib (ib+k)) ia (ib+k):=by
 have h':=h;unfold xV at h'⊢;rw[<-tg ib k]at h';let:=h'.vy (by rw[tg];exact hb.drop ib) (λu hu v hv=>by obtain⟨j,j1,j2⟩:=qk hv;obtain⟨i,i1,i2⟩:=oh hu;rw[gS]at i2;exact hx _ j u v ("yu0nqh/%#") ("BsWaWP,_^w_2&#",i1) j1 i2 j2)
 rw[fU,BK];exact this
theorem tN(a:Array gO)(i:Nat):(a.extract i).toList=a.toList.drop i:=by rw[gY,gU,g6];simp
theorem xV.dn(h:xV ky a b out ia ib)(ha:wm ky a₀ a)(hb:wm ky a₀ b)(hx:ia≥a.size∨ib≥b.size):Res ky a b (out++a.extract ia++b.extract ib):=by
 unfold Res;rw[fU,fU,tN,tN];refine MI.done h (ha.drop ia) (hb.drop ib) λu hu v hv=>?_;rcases hx with hx|hx
 .rw[io (by simpa using hx)]at hu;cases hu
 .rw[io (by simpa using hx)]at hv;cases hv
theorem xV.ls(h:xV ky a b out ia ib)(ha:wm ky a₀ a)(hb:wm ky a₀ b)(hi:ia+1=a.size)(vB:∀(j:Nat) p q,a.toList[a.size-1]?=aq p->b.toList[j]?=aq q->ky q.1<=ky p.1):Res ky a b (out++b.extract ib++a.extract ia):=by
 unfold Res;rw[fU,fU,tN,tN];refine MI.done (MI.comm h) (hb.drop ib) (ha.drop ia) λu hu v hv=>?_;obtain⟨j,j1,j2⟩:=qk hu;obtain⟨i,i1,i2⟩:=qk hv;have:i<a.size:=by let:=(bZ.mp i2).1;simpa using this
 obtain rfl:i=a.size-1:=(",LqvBK[y'OSN_bBGP3ViTs7RT#`i3'#",hi,i1,this,rfl);exact vB j v u i2 j2
end
theorem OW{k v:Int}(h:bz ag k v=af):v<=k:=by simpa[bz]using h
theorem OX{k v:Int}(h:bz ag k v=ag):k<v:=by simpa[bz]using h
theorem OY{k v:Int}(h:bz af k v=af):v<k:=by simpa[bz]using h
theorem OZ{k v:Int}(h:bz af k v=ag):k<=v:=by simpa[bz]using h
structure LoG(ky:aZ->Int)(a b out:Array gO)(ia ib:Nat)(u:gO):Prop where
 la:ia+1<a.size
 lb:ib<b.size
 sz:out.size=ia+ib
 p:xV ky a b out ia ib
 hu:∀(j:Nat) q,ia<=j->a.toList[j]?=aq q->ky u.1<=ky q.1
section
variable{C:Cf}{α β γ:Type}{Q:α->gP->Prop}{st:gP}{c:Prop}[Decidable c]
theorem jpB{t B:β->StateT gP Sem α}{c:β->Prop}[∀o,Decidable<|c o](h:∀o,wq C (B o) Q st)(h1:∀o,(∀o,wq C (B o) Q st)->wq C (t o) Q st):∀o,wq C (if c o then t o else B o) Q st:=λo=>by
 by_cases k:c o
 .rw[mZ k];exact h1 o h
 .rw[mT k];exact h o
theorem YH{t B:β->γ->StateT gP Sem α}{c:β->γ->Prop}[∀o i,Decidable<|c o i]{J:β->γ->Prop}(I:β->γ->Prop)(h:∀o i,I o i->wq C (B o i) Q st)(h1:∀o i,J o i->c o i->(∀o i,I o i->wq C (B o i) Q st)->wq C (t o i) Q st)(h2:∀o i,J o i->¬c o i->I o i):∀o i,J o i->wq C (if c o i then t o i else B o i) Q st:=λo i j=>by
 by_cases k:c o i
 .rw[mZ k];exact h1 o i j k h
 .rw[mT k];exact h o i<|h2 o i j k
theorem W8{b:Bool}{t u:StateT gP Sem α}(h1:b=af->wq C t Q st)(h2:b=ag->wq C u Q st):wq C (if b=af then t else u) Q st:=by
 cases b with
 |true=>rw[mZ rfl];exact h1 rfl
 |false=>rw[mT Bool.false_ne_true];exact h2 rfl
theorem F4{a b:Nat}{t u:StateT gP Sem α}(h1:a=b->wq C t Q st)(h2:a≠b->wq C u Q st):wq C (if(a==b)=af then t else u) Q st:=
 W8 (λe=>h1<|beq_iff_eq.mp e) λe=>h2<|beq_eq_false_iff_ne.mp e
theorem O0{τ:Type}{P D:Array gO->Nat->Nat->Prop}{R:Array gO->Prop}{wf:gP}{f:Nat->Option (Array gO)×Array gO×Nat×Nat×τ->StateT gP Sem (ForInStep<|Option (Array gO)×Array gO×Nat×Nat×τ)}{b n:Nat}{o:Array gO}{i j:Nat}{z:τ}{Q:Option (Array gO)×Array gO×Nat×Nat×τ->gP->Prop}
  (hs:qB wf st)(hP:P o i j)(hn:n<=o.size)(lim:∀o i j,P o i j->o.size<n+b)(ret:∀r z s,qB wf s->R r->Q (aq r,z) s)(go:∀o i j z s,qB wf s->D o i j->n+1<=o.size->Q (aI,o,i,j,z) s)
  (step:∀x o i j z st Q',(∀r z s,qB wf s->R r->Q' (.done (aq r,z)) s)->(∀o i j z s,qB wf s->D o i j->n+1<=o.size->Q' (.done (aI,o,i,j,z)) s)->(∀o i j z s,qB wf s->P o i j->n+(x+1)<=o.size->Q' (.yield (aI,o,i,j,z)) s)->qB wf st->P o i j->n+x<=o.size->wq C (f x (aI,o,i,j,z)) Q' st):
  wq C (forIn [0:b] (aI,o,i,j,z) f) Q st:=by
 refine ot (I:=λx c s=>∃o i j z,c=(aI,o,i,j,z)/\qB wf s/\P o i j/\n+x<=o.size) ?_ ?_ ⟨o,i,j,z,rfl,hs,hP,hn⟩
 .rintro x _ s _ _ ⟨o,i,j,z,rfl,h1,h2,h3⟩;exact step x o i j z s _ ret go (λo i j z s a b c=>⟨o,i,j,z,rfl,a,b,c⟩) h1 h2 h3
 .rintro _ s ⟨o,i,j,z,rfl,h1,h2,h3⟩;exact absurd (lim o i j h2)<|fi.mpr<|gq (Nat.add_le_add_left (Nat.le_max_right 0 b) n) h3
theorem UU{t u:StateT gP Sem α}(h1:c->wq C t Q st)(h2:¬c->wq C u Q st):wq C (if c then t else u) Q st:=by
 by_cases k:c
 .rw[mZ k];exact h1 k
 .rw[mT k];exact h2 k
end
def GE:Array gO->Array gO->StateT gP Sem (Array gO):=sortPriv% PySem.Builtin.mergeLo
section
variable{C:Cf}{kd:SortKind}{ky:aZ->Int}{a₀:Array gO}
structure LoJ(ky:aZ->Int)(a b out:Array gO)(ia ib:Nat)(u:gO)(n k:Nat):Prop where
 p1:xV ky a b (out++a.extract ia (ia+k)) (ia+k) ib
 z1:(out++a.extract ia (ia+k)).size=ia+k+ib
 hu:∀(j:Nat) q,ia+k<=j->a.toList[j]?=aq q->ky u.1<=ky q.1
 r:OV ky a b out ia ib
 hx:n<=out.size
 hk:k<=a.size-ia
structure LoK(ky:aZ->Int)(a b out:Array gO)(ia ib:Nat)(v:gO)(n m:Nat):Prop where
 p3:xV ky a b (out++b.extract ib (ib+m)) ia (ib+m)
 z3:(out++b.extract ib (ib+m)).size=ia+(ib+m)
 hv:∀(j:Nat) q,ib+m<=j->b.toList[j]?=aq q->ky v.1<=ky q.1
 p2:xV ky a b out ia ib
 z2:out.size=ia+ib
 hx:n<=out.size
 lb:ib<b.size
 hm:m<=b.size-ib
structure LoH(ky:aZ->Int)(a b out:Array gO)(ia ib:Nat)(v:gO)(n:Nat):Prop where
 p:xV ky a b out ia ib
 sz:out.size=ia+ib
 hv:∀(j:Nat) q,ib<=j->b.toList[j]?=aq q->ky v.1<=ky q.1
 hx:n<=out.size
 lb:ib<b.size
theorem OV.lim{n:Nat}{a b out:Array gO}{ia ib:Nat}(R:OV ky a b out ia ib):out.size<n+(a.size+b.size):=by let:=R.la;let:=R.lb;let:=R.sz;exact("&$Y36gH0#t0,c7?C/fi$[oB)#",(by assumption),(by assumption),this)
theorem IR(O:Ord C kd ky a₀){a b:Array gO}{st:gP}{Q:Array gO->gP->Prop}(ha:wm ky a₀ a)(hb:wm ky a₀ b)(h1:0<a.size)(h2:0<b.size)
  (rz:∀p q,a.toList[0]?=aq p->b.toList[0]?=aq q->ky q.1<=ky p.1)(vB:∀(j:Nat) p q,a.toList[a.size-1]?=aq p->b.toList[j]?=aq q->ky q.1<=ky p.1)
  (hk:kindOf st=kd)(h:∀r nA,qB st nA->Res ky a b r->Q r nA):wq C (GE a b) Q st:=by
 unfold GE;refine Ed ?_;refine rq (hb.at h2) λy e1 e2 m=>?_;let P1:xV ky a b #[y] 0 1:=xV.vy (out:=#[]) ⟨by simp,by simp,by simp⟩ hb e2 (λj q hj hq=>by obtain⟨x,f1,f2,fm⟩:=ha.at h1;exact gR (rz x y f2 e2)<|ha.ord 0 j x q (aR _) f2 hq)
 refine F4 (λc1=>mv<|h _ _ (qB.refl _)<|P1.dn ha hb<|.inr ("'^W`,hST;,$#",c1)) λc1=>?_;refine F4 (λc2=>mv<|h _ _ (qB.refl _)<|P1.ls ha hb c2 vB) λc2=>?_;refine Dc ?_;refine nq<|O0 (n:=1) (P:=OV ky a b) (D:=λ_ _ _=>False) (R:=Res ky a b) (qB.refl _) ⟨("$#(y^DkUIAYoY4O=4[$#",h1,c2),("2_sAsC]z`gjalx$#",h2,c1),rfl,P1⟩ (dg 1) (λ_ _ _ R=>R.lim) (λr z s hs hr=>mv<|h r s hs hr) (λ_ _ _ _ _ _ f=>f.elim) ?_;clear rz e1 e2 P1 c1 c2 h h1 h2 m;intro x out ia ib mg wj Q1 ret go next hs R hx
 refine nq<|O0 (n:=out.size) (P:=OV ky a b) (D:=OV ky a b) (R:=Res ky a b) hs R (dg _) (λ_ _ _ R=>R.lim) (λr z s hs hr=>mv<|ret r _ s hs hr) ?_ ?_
 .clear go R hs;intro o1 ia1 ib1 _ pz hs R Da;refine Ed ?_;refine nq<|O0 (n:=o1.size) (P:=OV ky a b) (D:=OV ky a b) (R:=Res ky a b) hs R (dg _) (λ_ _ _ R=>R.lim) (λr z s hs hr=>mv<|ret r _ s hs hr) ?_ ?_
  .intro o2 ia2 UV _ sF hs R hx;exact A9 λrV GG=>mv (next _ _ _ _ _ (hs.trans GG) R (show 1+(x+1)<=o2.size by exact("4/F.9hs#/;^&i29xHZ*}sx8k'#",(by assumption),Da,hx)))
  clear ret next Da hx hs R
  rintro i o ia ib ⟨mg,ac,bc⟩ sF Q3 ret go next hs R hx
  dsimp only;have la:=R.la;have lb:=R.lb;revert mg;refine jpB (λmg=>?_) λmg hB=>hB<|mg-1;refine A9 λrV GG=>?_
  replace hs:=hs.trans GG
  let W9:kindOf rV=kd:=hs.kind.trans hk;clear GG;refine rq (hb.at lb) λu u1 u2 um=>?_;refine wd O W9 um (ha.str ia (a.size-ia) ("?J.ma~/Zg`ohLo[2#S&#",la,rfl)) ("$jv)54hWofeoYLs)T`&#",la,rfl) λk k1 k2 k3=>?_;have P1:xV ky a b (o++a.extract ia (ia+k)) (ia+k) ib:=R.p.IP ha (λi j p q i1 i2 j1 e e'=>by let:=k2 (i-ia) ("1E?wdTq[j}cEL/sDmCDm'#",i1,i2,rfl);rw[show ia+(i-ia)=i by exact("uoe$$_~q5$)jW0Tr376&#",i1,rfl),vA e]at this;exact gR (OW this)<|hb.ord ib j u q j1 u2 e')
  have Xa:(o++a.extract ia (ia+k)).size=ia+k+ib:=by let:=R.sz;rw[hJ,hG];exact("$'0T>2T$+La<_%s,U?:POi~f^9tUYJ)x+gtDBq_0330EyjQ50jU,ULXqVmMtzFOo9>`4_]+#",k1,this,("%"),rfl,rfl)
  have hu:∀(j:Nat) q,ia+k<=j->a.toList[j]?=aq q->ky u.1<=ky q.1:=λj q hj e=>by
   let Z9:j<a.size:=by let:=(bZ.mp e).1;simpa using this
   let:=k3 (j-ia) (";[]z~PQm9=,`M-<)k.1'#",hj,rfl) (")cF+JyviWBnP%,cxinVr3Xj-6>5;ek)#",hj,Z9,rfl,rfl);rw[show ia+(j-ia)=j by exact("0_2T'O{AF]zGXdh'ImGb:%'#",hj,rfl),vA e]at this;exact aV<|OX this
  have J:=LoJ.mk P1 Xa hu R hx k1;clear P1 Xa hu R hx k1 k2 k3 la sF;revert J;revert o ia;refine YH (λo ia=>LoG ky a b o ia ib u/\o1.size+i<=o.size) (λo ia hF=>?_) (λo ia J c5 hB=>?_) λo ia J c5=>?_
  .let F:=hF.1;let Xb:=hF.2;let la:=F.la;have sz:=F.sz;refine tf u1 ?_;let P2:=F.p.vy hb u2 F.hu;refine F4 (λc8=>mv<|ret _ _ _ hs<|P2.dn ha hb<|.inr ("=cR47^Vjg0'Si%#",c8)) λc8=>?_;let z2:(o.push u).size=o.size+1:=gZ ..;refine rq (ha.at<|Nat.lt_of_succ_lt F.la) λv v1 v2 vm=>?_;refine wd O W9 vm (hb.str (ib+1) (b.size-(ib+1)) ("*3lcbnve?A}4C6+25;+6&#",lb,rfl)) (":O9)CwsOr;eNROjFb#okTf;I<&#",lb,c8,rfl) λm m1 m2 m3=>?_;have P3:=P2.IQ (k:=m) hb (λi j p q i1 i2 j1 e e'=>by
    let:=m2 (i-(ib+1)) ("7vI$PXJt]l*CC?MN5Y20G?Y;3'#",i1,i2,rfl);rw[show ib+1+(i-(ib+1))=i by exact("$>X[Qh>&?d0zG2dKHR`0I3aO(&#",i1,rfl),vA e]at this;exact gR (aV<|OY this)<|ha.ord _ j v q j1 v2 e')
   have hv:∀(j:Nat) q,ib+1+m<=j->b.toList[j]?=aq q->ky v.1<=ky q.1:=λj q hj e=>by
    let Z9:j<b.size:=by let:=(bZ.mp e).1;simpa using this
    let:=m3 (j-(ib+1)) ("$W^_Z5Di$~1Np?8j5<?b%Dy'#",hj,rfl) (",g<z'i?`H(_P{8jd$6oEjEfzSut%o/Ys58?)#",hj,Z9,rfl,rfl);rw[show ib+1+(j-(ib+1))=j by exact("6q^Nc+<LoAqp7&>n}c<0w;i;l`-'#",hj,rfl),vA e]at this;exact OZ this
   have z3:(o.push u++b.extract (ib+1) (ib+1+m)).size=o.size+1+m:=by rw[hJ,hG];exact("F?7h[q-y5YrX6b1aZ(9?jrLEiI/HLo&J/FWu.g6uk{pNo$:y<*0bg`Hi*&}^?$c8sDoJ=qjXU{+#",z2,m1,("%"),rfl,rfl)
   have J:LoK ky a b (o.push u) ia (ib+1) v (o1.size+(i+1)) m:=⟨P3,("$S^.}p<S/.HwqNxm5'P?qc$?R8`(#",sz,z3),hv,P2,(".{Yl`bzz<C7%k#J9M,J.duu'#",sz,z2),gq (Nat.succ_le_succ Xb)<|Nat.le_of_eq z2.symm,("$~nl^ERJK~c>hIt{ru%#",lb,c8),m1⟩;clear P2 P3 z2 z3 hv m1 m2 m3 Xb sz F c8 u1 u2 lb;generalize o.push u=o2 at J⊢;generalize ib+1=UV at J⊢;revert J;revert o2 UV;refine YH (λo2 UV=>LoH ky a b o2 ia UV v<|o1.size+(i+1)) (λo2 UV F=>?_) (λo2 UV J c9 hB=>?_) λo2 UV J c9=>?_
   .have P4:=F.p.uv ha v2 F.hv;have z4:(o2.push v).size=o2.size+1:=gZ ..;have sz:=F.sz;have hx:=F.hx;refine tf v1 ?_;refine F4 (λUW=>mv<|ret _ _ _ hs<|P4.ls ha hb UW vB) λUW=>?_;let R9:=OV.mk ("%vXk#O3/$?-QB;u2PWKB5/%%#",la,UW) F.lb (".{Yl`c?e{_JG*#H1k>)*s3y'#",z4,sz) P4;exact W8 (λ_=>mv<|go _ _ _ _ _ hs R9 ("Eyn.87FymF$ehTW|W'jN'#",z4,hx)) λ_=>mv<|next _ _ _ _ _ hs R9 ("%61HfXrD+KbMvqj/pVUNVD'#",z4,hx)
   .refine F4 (λUX=>mv<|ret _ _ _ hs<|J.p3.dn ha hb<|.inr ("=cQxJ%d{7WsKb&#",UX)) λUX=>?_;let h1:=J.z3;let h2:=J.z2;let h3:=J.hx;let h4:=J.hm;exact hB _ _ ⟨J.p3,J.z3,J.hv,("6Scf/]m?>OAQMm:Od'Zp$zI%avYm`*#",h1,h2,h3),("En_w.avMCxxoiB*9ioF<O;_Q*N,o'#",c9,UX,h4,rfl)⟩
   .have m0:m=0:=("(MKa$luLL_b$#",c9);subst m0;exact⟨J.p2,J.z2,J.hv,J.hx,J.lb⟩
  .refine F4 (λc6=>mv<|ret _ _ _ hs<|J.p1.ls ha hb c6 vB) λc6=>?_;refine F4 (λc7=>mv<|ret _ _ _ hs<|J.p1.dn ha hb<|.inl ("=cQxJ%d{7WsKb&#",c7)) λc7=>?_;let la:=J.r.la;let sz:=J.r.sz;let h1:=J.z1;let h2:=J.hk;let h3:=J.hx;exact hB _ _ ⟨⟨("-F7,,SjHYc9zJj+<MRwytJmv(Ihw&Wg0;E/VUl%Hq'#",c6,c7,la,h2,rfl),lb,h1,J.p1,J.hu⟩,("$j?%7kjEbZ`>V6(C^%U==V$o6n*#",sz,h1,h3)⟩
  .have k0:k=0:=("(MKa$luLL_b$#",c5);subst k0;exact⟨⟨J.r.la,lb,J.r.sz,J.r.p,J.hu⟩,J.hx⟩
 .clear ret go next R hs hx Q1
  intro i o ia ib δ pz Q2 ret go next hs R hx
  dsimp only;refine rq (hb.at R.lb) λu u1 u2 um=>rq (ha.at<|Nat.lt_of_succ_lt R.la) λv v1 v2 vm=>Z6 O (hs.kind.trans hk) um vm ?_;have la:=R.la;have lb:=R.lb;let sz:=R.sz;refine W8 (λc3=>tf u1 ?_) λc3=>tf v1 ?_
  .have P':=R.p.vy hb u2 (λj q hj hq=>gR (aV<|pN c3)<|ha.ord ia j v q hj v2 hq);refine F4 (λc4=>mv<|ret _ _ _ hs<|P'.dn ha hb<|.inr ("=cR47^Vjg0'Si%#",c4)) λc4=>?_;have z2:(o.push u).size=o.size+1:=gZ ..;have R2:=OV.mk la ("$~nl^ERJK~c>hIt{ru%#",lb,c4) (".{Yl`bzz<C7%k#J9M,J.duu'#",sz,z2) P';exact UU (λ_=>mv<|go _ _ _ _ _ hs R2 ("'rDqRPnYHj#;gq.#jgP'#",hx,z2)) λ_=>mv<|next _ _ _ _ _ hs R2 (",o#iZ`9r7]9r$f*&&qX''#",hx,z2)
  .have P':=R.p.uv ha v2 (λj q hj hq=>gR (aT.mp<|pZ c3)<|hb.ord ib j u q hj u2 hq);refine F4 (λc4=>mv<|ret _ _ _ hs<|P'.ls ha hb c4 vB) λc4=>?_;have z2:(o.push v).size=o.size+1:=gZ ..;have R2:=OV.mk ("%vXk#O3/$?-QB;u2PWKB5/%%#",la,c4) lb (".{Yl`c.5jV{Ix}[+yNc),s''#",sz,z2) P';exact UU (λ_=>mv<|go _ _ _ _ _ hs R2 ("'rDqRPnYHj#;gq.#jgP'#",hx,z2)) λ_=>mv<|next _ _ _ _ _ hs R2 (",o#iZ`9r7]9r$f*&&qX''#",hx,z2)
end
section lists
variable{α:Type}
theorem xW{l:List α}{m n:Nat}(h:m<=n):((l.drop m).take (n-m)).reverse++(l.take m).reverse=(l.take n).reverse:=by rw[<-List.reverse_append];congr 1;let:=ig m<|l.take n;rw[List.take_take,iE h,List.drop_take]at this;exact this
theorem take_one{l:List α}{n:Nat}{x:α}(h:l[n]?=aq x):[x]++(l.take n).reverse=(l.take<|n+1).reverse:=by let hi:=(bZ.mp h).1;let e:=(bZ.mp h).2;rw[hV hi,e,List.reverse_append];rfl
end lists
abbrev vd(ky:aZ->Int)(a b out:Array gO)(na nb:Nat):Prop:=MI (Ge ky) (a.toList++b.toList) out.toList (a.toList.take na).reverse (b.toList.take nb).reverse
structure O1(ky:aZ->Int)(a b out:Array gO)(na nb:Nat):Prop where
 la:0<na
 V0:na<=a.size
 lb:1<nb
 Tm:nb<=b.size
 sz:out.size+na+nb=a.size+b.size
 p:vd ky a b out na nb
section
variable{ky:aZ->Int}{a₀ a b out:Array gO}{na nb m:Nat}{x:gO}
theorem vd.uv(h:vd ky a b out (na+1) nb)(ha:wm ky a₀ a)(e:a.toList[na]?=aq x)(hx:∀(j:Nat) q,j<nb->b.toList[j]?=aq q->ky q.1<=ky x.1):vd ky a b (out.push x) na nb:=by
 have h':=h;unfold vd at h'⊢;rw[<-take_one e]at h';let:=h'.uv (by rw[take_one e];exact ha.take _) (λu hu v hv=>by obtain⟨j,j1,j2⟩:=oh (gT.mp hv);rw[aH.mp hu];exact hx j v j1 j2)
 simpa using this
theorem vd.vy(h:vd ky a b out na<|nb+1)(hb:wm ky a₀ b)(e:b.toList[nb]?=aq x)(hx:∀(j:Nat) q,j<na->a.toList[j]?=aq q->ky q.1<=ky x.1):vd ky a b (out.push x) na nb:=by
 have h':=h;unfold vd at h'⊢;rw[<-take_one e]at h';let:=h'.vy (by rw[take_one e];exact hb.take _) (λu hu v hv=>by obtain⟨j,j1,j2⟩:=oh (gT.mp hv);rw[aH.mp hu];exact hx j v j1 j2)
 simpa using this
theorem BL(a:Array gO)(i n:Nat):(a.extract i n).reverse.toList=((a.toList.drop i).take (n-i)).reverse:=by rw[ij,gY,gU]
theorem vd.IP(h:vd ky a b out na nb)(ha:wm ky a₀ a)(hm:m<=na)(hx:∀(i j:Nat) p q,m<=i->i<na->j<nb->a.toList[i]?=aq p->b.toList[j]?=aq q->ky q.1<=ky p.1):vd ky a b (out++(a.extract m na).reverse) m nb:=by
 have h':=h;unfold vd at h'⊢;rw[<-xW hm]at h';let:=h'.uv (by rw[xW hm];exact ha.take _) (λu hu v hv=>by obtain⟨j,j1,j2⟩:=oh (gT.mp hv);obtain⟨i,i1,i2⟩:=oh (gT.mp hu);rw[gS]at i2;exact hx _ j u v ("yu0nqh/%#") ("&2hOtL+K.1SsGu~?K{'#",i1,rfl) j1 i2 j2)
 rw[fU,BL];exact this
theorem vd.IQ(h:vd ky a b out na nb)(hb:wm ky a₀ b)(hm:m<=nb)(hx:∀(i j:Nat) p q,m<=i->i<nb->j<na->b.toList[i]?=aq p->a.toList[j]?=aq q->ky q.1<=ky p.1):vd ky a b (out++(b.extract m nb).reverse) na m:=by
 have h':=h;unfold vd at h'⊢;rw[<-xW hm]at h';let:=h'.vy (by rw[xW hm];exact hb.take _) (λu hu v hv=>by obtain⟨j,j1,j2⟩:=oh (gT.mp hv);obtain⟨i,i1,i2⟩:=oh (gT.mp hu);rw[gS]at i2;exact hx _ j u v ("yu0nqh/%#") ("&2hOtL+K.1SsGu~?K{'#",i1,rfl) j1 i2 j2)
 rw[fU,BL];exact this
theorem tO(a:Array gO)(n:Nat):(a.extract 0 n).toList=a.toList.take n:=by rw[gY,gU];simp
theorem MI.res{all out ra rb:List gO}(h:MI (Ge ky) all out ra.reverse rb.reverse)(ha:ra.reverse.Pairwise<|Ge ky)(hb:rb.reverse.Pairwise<|Ge ky)(vX:∀x∈ra,∀y∈rb,Ge ky x y):
  (rb++ra++out.reverse).Pairwise (Le ky)/\(rb++ra++out.reverse).Perm all:=by
 let h1:=(MI.done h ha hb λx hx y hy=>vX x (gT.mp hx) y<|gT.mp hy).1;let h2:=(MI.done h ha hb λx hx y hy=>vX x (gT.mp hx) y<|gT.mp hy).2;let e:rb++ra++out.reverse=(out++ra.reverse++rb.reverse).reverse:=by simp
 rw[e];exact⟨iu.mpr h1,(im _).trans h2⟩
theorem vd.fs(h:vd ky a b out na nb)(ha:wm ky a₀ a)(hb:wm ky a₀ b)(hx:∀(i j:Nat) p q,i<na->j<nb->a.toList[i]?=aq p->b.toList[j]?=aq q->ky q.1<=ky p.1):Res ky a b (b.extract 0 nb++a.extract 0 na++out.reverse):=by unfold Res;rw[fU,fU,tO,tO,ij];refine MI.res h (ha.take na) (hb.take nb) λu hu v hv=>?_;obtain⟨i,i1,i2⟩:=oh hu;obtain⟨j,j1,j2⟩:=oh hv;exact hx i j u v i1 j1 i2 j2
theorem vd.dn(h:vd ky a b out na nb)(ha:wm ky a₀ a)(hb:wm ky a₀ b)(hx:na=0∨nb=0):Res ky a b (a.extract 0 na++b.extract 0 nb++out.reverse):=by
 unfold Res;rw[fU,fU,tO,tO,ij];refine MI.res h.comm (hb.take nb) (ha.take na) λu hu v hv=>?_;rcases hx with rfl|rfl
 .cases hv
 .cases hu
end
def GH:Array gO->Array gO->StateT gP Sem (Array gO):=sortPriv% PySem.Builtin.mergeHi
section
variable{C:Cf}{kd:SortKind}{ky:aZ->Int}{a₀:Array gO}
structure HiG(ky:aZ->Int)(a b out:Array gO)(na nb:Nat)(u:gO):Prop where
 la:0<na
 V0:na<=a.size
 lb:1<nb
 Tm:nb<=b.size
 sz:out.size+na+nb=a.size+b.size
 p:vd ky a b out na nb
 hu:∀(j:Nat) q,j<na->a.toList[j]?=aq q->ky q.1<=ky u.1
structure HiJ(ky:aZ->Int)(a b out:Array gO)(na nb:Nat)(u:gO)(n k cc:Nat):Prop where
 c:na-k=cc
 p1:vd ky a b (out++(a.extract k na).reverse) k nb
 z1:(out++(a.extract k na).reverse).size+k+nb=a.size+b.size
 hu:∀(j:Nat) q,j<k->a.toList[j]?=aq q->ky q.1<=ky u.1
 r:O1 ky a b out na nb
 hx:n<=out.size
 hk:k<=na
structure HiH(ky:aZ->Int)(a b o:Array gO)(na nb:Nat)(v:gO)(n:Nat):Prop where
 p:vd ky a b o na nb
 sz:o.size+na+nb=a.size+b.size
 hv:∀(j:Nat) q,j<nb->b.toList[j]?=aq q->ky q.1<=ky v.1
 hx:n<=o.size
 lb:1<nb
 Tm:nb<=b.size
structure HiK(ky:aZ->Int)(a b o:Array gO)(na nb:Nat)(v:gO)(n m cd:Nat):Prop where
 c:nb-m=cd
 p3:vd ky a b (o++(b.extract m nb).reverse) na m
 p2:vd ky a b o na nb
 z3:(o++(b.extract m nb).reverse).size+na+m=a.size+b.size
 z2:o.size+na+nb=a.size+b.size
 hv:∀(j:Nat) q,j<m->b.toList[j]?=aq q->ky q.1<=ky v.1
 hx:n<=o.size
 Ef:o.size<=(o++(b.extract m nb).reverse).size
 lb:1<nb
 Tm:nb<=b.size
 hm:m<=nb
theorem O1.lim{n:Nat}{a b out:Array gO}{na nb:Nat}(R:O1 ky a b out na nb):out.size<n+(a.size+b.size):=by let:=R.la;let:=R.lb;let:=R.sz;exact("$f6go7N;i?3Bmn5~wuo}+))#",(by assumption),this)
theorem O3{τ:Type}{P D:Nat->Nat->Array gO->Prop}{R:Array gO->Prop}{wf st:gP}{f:Nat->Option (Array gO)×Nat×Nat×Array gO×τ->StateT gP Sem (ForInStep<|Option (Array gO)×Nat×Nat×Array gO×τ)}{b n:Nat}{o:Array gO}{i j:Nat}{z:τ}{Q:Option (Array gO)×Nat×Nat×Array gO×τ->gP->Prop}
  (hs:qB wf st)(hP:P i j o)(hn:n<=o.size)(lim:∀i j o,P i j o->o.size<n+b)(ret:∀r z s,qB wf s->R r->Q (aq r,z) s)(go:∀i j o z s,qB wf s->D i j o->n+1<=o.size->Q (aI,i,j,o,z) s)
  (step:∀x i j o z st Q',(∀r z s,qB wf s->R r->Q' (.done (aq r,z)) s)->(∀i j o z s,qB wf s->D i j o->n+1<=o.size->Q' (.done (aI,i,j,o,z)) s)->(∀i j o z s,qB wf s->P i j o->n+(x+1)<=o.size->Q' (.yield (aI,i,j,o,z)) s)->qB wf st->P i j o->n+x<=o.size->wq C (f x (aI,i,j,o,z)) Q' st):
  wq C (forIn [0:b] (aI,i,j,o,z) f) Q st:=by
 refine ot (I:=λx c s=>∃i j o z,c=(aI,i,j,o,z)/\qB wf s/\P i j o/\n+x<=o.size) ?_ ?_ ⟨i,j,o,z,rfl,hs,hP,hn⟩
 .rintro x _ s _ _ ⟨i,j,o,z,rfl,h1,h2,h3⟩;exact step x i j o z s _ ret go (λi j o z s a b c=>⟨i,j,o,z,rfl,a,b,c⟩) h1 h2 h3
 .rintro _ s ⟨i,j,o,z,rfl,h1,h2,h3⟩;exact absurd (lim i j o h2)<|fi.mpr<|gq (Nat.add_le_add_left (Nat.le_max_right 0 b) n) h3
theorem vd.one{a b out:Array gO}{na:Nat}(h:vd ky a b out na 1)(ha:wm ky a₀ a)(hb:wm ky a₀ b)(h2:0<b.size)
  (rz:∀(j:Nat) p q,a.toList[j]?=aq p->b.toList[0]?=aq q->ky q.1<=ky p.1):Res ky a b (b.extract 0 1++a.extract 0 na++out.reverse):=
 h.fs ha hb λi j p q i1 j1 e1 e2=>by obtain rfl:j=0:=("BeCsr[y`3($#",j1);exact rz i p q e1 e2
theorem IS(O:Ord C kd ky a₀){a b:Array gO}{st:gP}{Q:Array gO->gP->Prop}(ha:wm ky a₀ a)(hb:wm ky a₀ b)(h1:0<a.size)(h2:0<b.size)
  (rz:∀(j:Nat) p q,a.toList[j]?=aq p->b.toList[0]?=aq q->ky q.1<=ky p.1)(vB:∀(j:Nat) p q,a.toList[a.size-1]?=aq p->b.toList[j]?=aq q->ky q.1<=ky p.1)
  (hk:kindOf st=kd)(h:∀r nA,qB st nA->Res ky a b r->Q r nA):wq C (GH a b) Q st:=by
 unfold GH;refine Ed ?_;refine rq (ha.at (i:=a.size-1) ("%NI`d#'5y)fQm6?%#",h1,rfl)) λy e1 e2 m=>?_;have P0:vd ky a b #[] a.size b.size:=⟨by rw[g6 (by simp),g6 (by simp)];simpa using List.Perm.append (im _) (im _),by simp,by simp⟩;have P1:vd ky a b #[y] (a.size-1) b.size:=by
  let:vd ky a b #[] (a.size-1+1) b.size:=by rw[gX h1];exact P0
  exact this.uv ha e2 λj q hj hq=>vB j y q e2 hq
 let one:∀{o:Array gO}{n k:Nat},vd ky a b o n k->k=1->Res ky a b (b.extract 0 k++a.extract 0 n++o.reverse):=λh e=>by subst e;exact h.one ha hb h2 rz
 refine F4 (λc1=>mv<|h _ _ (qB.refl _)<|P1.dn ha hb<|.inl c1) λc1=>?_;refine F4 (λc2=>mv<|h _ _ (qB.refl _)<|one P1 c2) λc2=>?_;refine Dc ?_;refine nq (O3 (n:=1) (P:=λi j o=>O1 ky a b o i j) (D:=λ_ _ _=>False) (R:=Res ky a b) (qB.refl _) ⟨("(MK`<p6K&c$$#",c1),("&{`UgnU7fz.+%#",rfl),(">mS>Kc3XjPRL5b$#",h2,c2),("n_&86$#"),by show 1+_+_=_;exact id<|LA.u270 0x2482484792080031008096c82400360002243 ("$") h1 rfl,P1⟩ (dg 1) (λ_ _ _ R=>R.lim) (λr z s hs hr=>mv<|h r s hs hr) (λ_ _ _ _ _ _ f=>f.elim) ?_);intro x na nb out mg wj Q1 ret go next hs R hx
 refine nq<|O3 (n:=out.size) (P:=λi j o=>O1 ky a b o i j) (D:=λi j o=>O1 ky a b o i j) (R:=Res ky a b) hs R (dg _) (λ_ _ _ R=>R.lim) (λr z s hs hr=>mv<|ret r _ s hs hr) ?_ ?_
 .clear go R hs;intro na1 nb1 o1 _ pz hs R Da;refine Ed ?_;refine nq<|O3 (n:=o1.size) (P:=λi j o=>O1 ky a b o i j) (D:=λi j o=>O1 ky a b o i j) (R:=Res ky a b) hs R (dg _) (λ_ _ _ R=>R.lim) (λr z s hs hr=>mv<|ret r _ s hs hr) ?_ ?_
  .intro na2 RQ o2 _ sF hs R hx;exact A9 λrV GG=>mv (next _ _ _ _ _ (hs.trans GG) R (show 1+(x+1)<=o2.size by exact("4/F.9hs#/;^&i29xHZ*}sx8k'#",(by assumption),Da,hx)))
  clear ret next Da hx hs R
  rintro i na nb o ⟨mg,ac,bc⟩ sF Q3 ret go next hs R hx
  dsimp only;let g1:=R.la;let g2:=R.V0;have g3:=R.lb;have g4:=R.Tm;revert mg;refine jpB (λmg=>?_) λmg hB=>hB<|mg-1;refine A9 λrV GG=>?_
  replace hs:=hs.trans GG
  let W9:kindOf rV=kd:=hs.kind.trans hk;clear GG;refine rq (hb.at (i:=nb-1) ("?J=[60AK(ge=R>FbK~&#",g3,g4,rfl)) λu u1 u2 um=>?_;refine wd O W9 um (ha.str 0 na ("$D,H}L<AP&q%#",g2)) ("%NI`d#'5y)fQm6?%#",g1,rfl) λk k1 k2 k3=>?_;dsimp only;simp only[iq]at k2 k3;let P1:vd ky a b (o++(a.extract k na).reverse) k nb:=R.p.IP ha k1 (λi j p q i1 i2 j1 e e'=>by let:=k3 i i1 i2;rw[vA e]at this;exact gR (hb.ord j (nb-1) q u ("TbQ7rl]W-D+ohWUi2&#",j1,rfl) e' u2)<|aV<|OX this)
  let Xa:(o++(a.extract k na).reverse).size+k+nb=a.size+b.size:=by let:=R.sz;rw[hJ,Array.size_reverse,hG];exact("SrnVnRp`TkHfFkO:?PkdzFJ'|3FM~9E6d8tJD*C]z[6{TGvc#+#",g2,k1,this,("%"),rfl)
  let hu:∀(j:Nat) q,j<k->a.toList[j]?=aq q->ky q.1<=ky u.1:=λj q hj e=>by let:=k2 j hj;rw[vA e]at this;exact OW this
  generalize hcc:na-k=cc;let J:=HiJ.mk hcc P1 Xa hu R hx k1;clear P1 Xa hu R hx k1 k2 k3 g1 g2 hcc sF;revert J;revert o na;refine YH (λna o=>HiG ky a b o na nb u/\o1.size+i<=o.size) (λn o hF=>?_) (λna o J c5 hB=>?_) λna o J c5=>?_
  .let F:=hF.1;let Xb:=hF.2;have q1:=F.la;let q2:=F.V0;let q3:=F.sz;refine tf u1 ?_;have P2:=vd.vy (na:=n) (nb:=nb-1) (by rw[gX (aP g3)];exact F.p) hb u2 F.hu;refine F4 (λc8=>mv<|ret _ _ _ hs<|one P2 c8) λc8=>?_;let z2:(o.push u).size=o.size+1:=gZ ..;refine rq (ha.at (i:=n-1) ("?J=[60AK(ge=R>FYCn&#",q1,q2,rfl)) λv v1 v2 vm=>?_;refine wd O W9 vm (hb.str 0 (nb-1) ("K}o~=)2t(?M<9m~br&#",g4,rfl)) ("_/CcFkLX(G:7>Q&Sq3>A=W&#",g3,rfl,rfl) λm m1 m2 m3=>?_;dsimp only;simp only[iq]at m2 m3;have P3:=P2.IQ (m:=m) hb m1 (λi j p q i1 i2 j1 e e'=>by
    let:=m3 i i1 i2;rw[vA e]at this;exact gR (ha.ord j _ q v ("TbQ7rl]W-D+ohWUi2&#",j1,rfl) e' v2)<|OZ this)
   have hv:∀(j:Nat) q,j<m->b.toList[j]?=aq q->ky q.1<=ky v.1:=λj q hj e=>by let:=m2 j hj;rw[vA e]at this;exact aV<|OY this
   have z3:(o.push u++(b.extract m<|nb-1).reverse).size=o.size+1+(nb-1-m):=by rw[hJ,Array.size_reverse,hG];exact("1S+V51hmRS+`bv>l}|k(*>Kw?ry}2y6?[A{mak%n&0E[a0.G3P37/J30l+EPTWRb}wr3RL{oBjy/s=pAEYY,#cN,:&HRT-Y#/C3Sf%0Tz,#",g4,z2,("%"),("%"),rfl,rfl)
   generalize Ys:nb-1-m=cd;have J:HiK ky a b (o.push u) n (nb-1) v (o1.size+(i+1)) m cd:=⟨Ys,P3,P2,("/F(b`3#TdpJV_2_2_HSs|4yA=vZaRAEM>Ni8XulOiInWu_<.{jiN]Hv,#",g3,q3,m1,z3,rfl,rfl),("3*Zo}1/DO/<8Qid,5f3c1)KoJc*Y>|EQ$dF<=jf~*#",g3,q3,z2,rfl),hv,gq (Nat.succ_le_succ Xb)<|Nat.le_of_eq z2.symm,("$TNz.[i.9v{H/)h+OG_'#",z2,z3),("$nSo4EF1gVZ37'2y'76,?1%#",g3,c8,rfl),("$i0`~oLYluA~d~hM&#",g4,rfl),m1⟩;clear P2 P3 z2 z3 hv m1 m2 m3 Xb F c8 Ys;generalize o.push u=o2 at J⊢;generalize nb-1=RQ at J⊢;revert J;revert o2 RQ;refine YH (λo2 RQ=>HiH ky a b o2 n RQ v<|o1.size+(i+1)) (λo2 RQ F=>?_) (λo2 RQ J c9 hB=>?_) λo2 RQ J c9=>?_
   .have P4:=vd.uv (na:=n-1) (nb:=RQ) (by rw[gX q1];exact F.p) ha v2 F.hv;have z4:(o2.push v).size=o2.size+1:=gZ ..;have sz:=F.sz;let hx:=F.hx;refine tf v1 ?_;refine F4 (λUW=>mv<|ret _ _ _ hs<|P4.dn ha hb<|.inl UW) λUW=>?_;let R9:=O1.mk ("(MK`<p6K&c$$#",UW) ("$i0`~oLYluA~d~hM&#",q2,rfl) F.lb F.Tm ("3*Zo}1/DO/<LA$W:,p]U}_xys;)fiy/[:(f|$HF.*#",q1,z4,sz,rfl) P4;exact W8 (λ_=>mv<|go _ _ _ _ _ hs R9 ("Eyn.87FymF$ehTW|W'jN'#",z4,hx)) λ_=>mv<|next _ _ _ _ _ hs R9 ("%61HfXrD+KbMvqj/pVUNVD'#",z4,hx)
   .refine F4 (λUX=>mv<|ret _ _ _ hs<|one J.p3 UX) λUX=>?_;refine F4 (λζ=>mv<|ret _ _ _ hs<|J.p3.dn ha hb<|.inr ζ) λζ=>?_;have h1:=J.Tm;have h2:=J.hm;exact hB _ _ ⟨J.p3,J.z3,J.hv,gq J.hx J.Ef,("C[L`Vzxf^(-H5G]8$#",UX,ζ),("Cl[{^to=ubJW&#",h1,h2)⟩
   .have h1:=J.c;have h2:=J.hm;obtain rfl:m=RQ:=("0Or#)9H-A_3`H7&MWX^u;F)S-y'#",c9,h1,h2,rfl);exact⟨J.p2,J.z2,J.hv,J.hx,J.lb,J.Tm⟩
  .refine F4 (λc6=>mv<|ret _ _ _ hs<|J.p1.dn ha hb<|.inl c6) λc6=>?_;have la:=J.r.V0;have h2:=J.hk;have h3:=J.hx;exact hB _ _ ⟨⟨("(MK`<p6K&c$$#",c6),("Cl[{^to=ubJW&#",la,h2),g3,g4,J.z1,J.p1,J.hu⟩,by rw[hJ];exact("D24PVojX+8B<;T'#",h3)⟩
  .have h1:=J.c;have h2:=J.hk;obtain rfl:k=na:=("0Or#)9H-A_3`H7&MWX^u;F)S-y'#",c5,h1,h2,rfl);exact⟨⟨J.r.la,J.r.V0,g3,g4,J.r.sz,J.r.p,J.hu⟩,J.hx⟩
 .clear ret go next R hs hx Q1
  intro i na nb o δ pz Q2 ret go next hs R hx
  dsimp only;have g1:=R.la;have g2:=R.V0;have g3:=R.lb;have g4:=R.Tm;let g5:=R.sz;refine rq (hb.at (i:=nb-1) ("?J=[60AK(ge=R>FbK~&#",g3,g4,rfl)) λu u1 u2 um=>rq (ha.at (i:=na-1) ("?J=[60AK(ge=R>FYCn&#",g1,g2,rfl)) λv v1 v2 vm=>Z6 O (hs.kind.trans hk) um vm ?_;have R0:vd ky a b o (na-1+1) (nb-1+1):=by rw[gX g1,gX<|aP g3];exact R.p
  refine W8 (λc3=>tf v1 ?_) λc3=>tf u1 ?_
  .have P':=R0.uv ha v2 (λj q hj hq=>gR (hb.ord j (nb-1) q u ("$D,H}Bq5X;5%#",hj) hq u2)<|aV<|pN c3);rw[gX (aP g3)]at P';refine F4 (λc4=>mv<|ret _ _ _ hs<|P'.dn ha hb<|.inl c4) λc4=>?_;have z2:(o.push v).size=o.size+1:=gZ ..;have R2:=O1.mk ("(MK`<p6K&c$$#",c4) ("$i0`~oLYluA~d~hM&#",g2,rfl) g3 g4 ("3*Zo}1/DO/<8QhU;qwPb-D4f<PemQvrQqY-AI]tn*#",g1,g5,z2,rfl) P';exact UU (λ_=>mv<|go _ _ _ _ _ hs R2 ("'rDqRPnYHj#;gq.#jgP'#",hx,z2)) λ_=>mv<|next _ _ _ _ _ hs R2 (",o#iZ`9r7]9r$f*&&qX''#",hx,z2)
  .have P':=R0.vy hb u2 (λj q hj hq=>gR (ha.ord j (na-1) q v ("$D,H}Bq5X;5%#",hj) hq v2)<|aT.mp<|pZ c3);rw[gX g1]at P';refine F4 (λc4=>mv<|ret _ _ _ hs<|one P' c4) λc4=>?_;have z2:(o.push u).size=o.size+1:=gZ ..;have R2:=O1.mk g1 g2 ("$nSo4EF1gVZ37'2y'76,?1%#",g3,c4,rfl) ("$i0`~oLYluA~d~hM&#",g4,rfl) ("3*Zo}1/DO/<8Qid,5f3c1)KoJc*Y>|EQ$dF<=jf~*#",g3,g5,z2,rfl) P';exact UU (λ_=>mv<|go _ _ _ _ _ hs R2 ("'rDqRPnYHj#;gq.#jgP'#",hx,z2)) λ_=>mv<|next _ _ _ _ _ hs R2 (",o#iZ`9r7]9r$f*&&qX''#",hx,z2)
end
def LZ(ky:aZ->Int)(a₀:Array gO):Prop:=(a₀.toList.map λp=>ky p.1).Nodup
theorem Xc{lo n i:Nat}(h:i<n):lo+(lo+n)-1-(lo+i)=lo+(n-1-i):=by
 cases n with
 |zero=>cases h
 |succ n=>
  show lo+(lo+n)-(lo+i)=lo+(n-i);rw[Nat.add_sub_add_left,Nat.add_sub_assoc<|iC h]
theorem hl{l r:Nat}(c:¬l≥r):l<=(l+r)/2:=(Nat.le_div_iff_mul_le<|Nat.succ_pos 1).2 ((Nat.mul_two l).symm▸Nat.add_le_add_left (aP<|Nat.lt_of_not_le c) l)
theorem hr{l r:Nat}(c:¬l≥r):(l+r)/2<r:=Nat.div_lt_of_lt_mul<|(Nat.two_mul r).symm▸Nat.add_lt_add_right (Nat.lt_of_not_le c) r
theorem hf1{l r k x:Nat}(h:r-l<=k-x)(c:¬l≥r):(l+r)/2-l<=k-(x+1):=Nat.le_pred_of_lt<|hH (Nat.sub_lt_sub_right (hl c)<|hr c) h
theorem hf2{l r k x:Nat}(h:r-l<=k-x)(c:¬l≥r):r-((l+r)/2+1)<=k-(x+1):=Nat.le_pred_of_lt<|hH (Nat.sub_lt_sub_left (Nat.lt_of_not_le c)<|Nat.lt_succ_of_le<|hl c) h
theorem LZ.inj{kd:SortKind}{ky:aZ->Int}{a₀:Array gO}{st:gP}(D:LZ ky a₀)(h:SB kd a₀ st){i j:Nat}(hi:i<a₀.size)(hj:j<a₀.size)(e:kz ky (arrOf st) i=kz ky (arrOf st) j):i=j:=by
 let hp:((arrOf st).toList.map λp=>ky p.1).Perm (a₀.toList.map λp=>ky p.1):=(gV.mp h.perm).map _;let D':((arrOf st).toList.map λp=>ky p.1).Nodup:=hp.nodup_iff.mpr D;have LS:i<(arrOf st).size:=by rw[h.size];exact hi
 let Xd:j<(arrOf st).size:=by rw[h.size];exact hj
 unfold kz at e;rw[getElem?_pos _ i LS,getElem?_pos _ j Xd]at e;exact(List.getElem_inj (h₀:=by simpa using LS) (h₁:=by simpa using Xd) D').mp (by simpa using e)
def Sg(ky:aZ->Int)(xs:Array gO)(lo n:Nat):Prop:=∀i j,i<=j->j<n->kz ky xs (lo+i)<=kz ky xs (lo+j)
def Ds(ky:aZ->Int)(xs:Array gO)(lo n:Nat):Prop:=∀i j,i<=j->j<n->kz ky xs (lo+j)<=kz ky xs (lo+i)
structure Fr(lo:Nat)(st nA:gP):Prop where
 arr:∀k,k<lo->(arrOf nA)[k]?=(arrOf st)[k]?
 pend:pendingOf nA=pendingOf st
theorem Fr.refl(lo:Nat)(st:gP):Fr lo st st:=⟨λ_ _=>rfl,rfl⟩
theorem Fr.trans{lo:Nat}{a b c:gP}(h:Fr lo a b)(k:Fr lo b c):Fr lo a c:=⟨λi hi=>(k.arr i hi).trans (h.arr i hi),k.pend.trans h.pend⟩
theorem Sg.more{ky:aZ->Int}{xs:Array gO}{lo n:Nat}(h:Sg ky xs lo n)(hn:1<=n)(e:kz ky xs (lo+n-1)<=kz ky xs (lo+n)):Sg ky xs lo (n+1):=by
 intro i j uE hj;by_cases Xe:j<n
 .exact h i j uE Xe
 .obtain rfl:j=n:=("*v52{ApTFnK8'z,7%#",hj,Xe);by_cases hi:i=j
  .subst hi;exact aS _
  .refine gR (h i (j-1) (".[O8ev/C6>1W:|p54'.Zo}O&#",uE,hi,rfl) ("%NI`d#'5y)fQu8m%#",hn,rfl)) ?_;rw[show lo+(j-1)=lo+j-1 by exact("$v*|4;D%}(fsY{glt=Efc),(u5IOsi'#",hn,rfl,rfl)];exact e
theorem Ds.more{ky:aZ->Int}{xs:Array gO}{lo n:Nat}(h:Ds ky xs lo n)(hn:1<=n)(e:kz ky xs (lo+n)<=kz ky xs (lo+n-1)):Ds ky xs lo (n+1):=by
 intro i j uE hj;by_cases Xe:j<n
 .exact h i j uE Xe
 .obtain rfl:j=n:=("*v52{ApTFnK8'z,7%#",hj,Xe);by_cases hi:i=j
  .subst hi;exact aS _
  .refine gR ?_ (h i (j-1) (".[O8ev/C6>1W:|p54'.Zo}O&#",uE,hi,rfl) ("%NI`d#'5y)fQu8m%#",hn,rfl));rw[show lo+(j-1)=lo+j-1 by exact("$v*|4;D%}(fsY{glt=Efc),(u5IOsi'#",hn,rfl,rfl)];exact e
theorem Sg.one{ky:aZ->Int}{xs:Array gO}{lo:Nat}:Sg ky xs lo 1:=λi j uE hj=>by obtain rfl:i=j:=("&xKnba/QOBQX=k%#",uE,hj);exact aS _
theorem Eg{ky:aZ->Int}{xs:Array gO}{i j:Nat}(hj:j<=xs.size)(k:Nat):
  kz ky (mirror xs i j<|(j-i)/2) k=if i<=k/\k<j then kz ky xs (i+j-1-k)else kz ky xs k:=by
 let e:=getElem?_mirror_all (i:=i) hj k;by_cases h1:i<=k/\k<j
 .rw[mZ h1]at e⊢;exact rX e
 .rw[mT h1]at e⊢;exact rX e
theorem Eh{ky:aZ->Int}{xs:Array gO}{src d:Nat}(hs:src<xs.size)(hd:d<=src)(k:Nat):
  kz ky (bubble xs src d) k=if k=src-d then kz ky xs src else if src-d<k/\k<=src then kz ky xs (k-1)else kz ky xs k:=by
 let e:=getElem?_bubble hs d hd k;by_cases h1:k=src-d
 .rw[mZ h1]at e⊢;exact rX e
 .rw[mT h1]at e⊢;by_cases h2:src-d<k/\k<=src
  .rw[mZ h2]at e⊢;exact rX e
  .rw[mT h2]at e⊢;exact rX e
section
variable{C:Cf}{kd:SortKind}{ky:aZ->Int}{a₀:Array gO}
def Ei:Nat->Nat->StateT gP Sem (Option Nat):=sortPriv% PySem.Builtin.countRun
theorem GI(O:Ord C kd ky a₀)(D:LZ ky a₀){st:gP}{lo uF:Nat}{Q:Option Nat->gP->Prop}(hn:lo+uF=a₀.size)(h1:1<=uF)(hB:SB kd a₀ st)
  (h:∀m nA,SB kd a₀ nA->Fr lo st nA->1<=m->m<=uF->Sg ky (arrOf nA) lo m->Q (aq m) nA):wq C (Ei lo uF) Q st:=by
 unfold Ei;refine nq (rp (ot
  (I:=λx c nA=>nA=st/\c=(aI,x)/\Sg ky (arrOf st) lo x)
  (Q:=λc nA=>nA=st/\∃n,c=(aI,n)/\1<=n/\n<=uF/\Sg ky (arrOf st) lo n/\(n=uF∨kz ky (arrOf st) (lo+n)<kz ky (arrOf st) (lo+n-1))) ?s1 ?f1 ⟨rfl,rfl,Sg.one⟩) ?p1)
 case s1=>
  rintro x c nA Da Ef ⟨rfl,rfl,g⟩;dsimp only;refine Ee O hB ("%%|HYu??N>71KK*='#",hn,Ef) ("&L~.('C$<eV?(OrO1{(XeKb:(#",hn,Ef,rfl) ?_;dsimp only;by_cases c3:kz ky (arrOf nA) (lo+x)<kz ky (arrOf nA) (lo+x-1)
  .rw[mZ (by rw[decide_eq_true_eq];exact c3)];exact mv ⟨rfl,x,rfl,Da,("(Dx}*=w{B%#",Ef),g,.inr c3⟩
  .rw[mT (by rw[decide_eq_true_eq];exact c3)];exact mv ⟨rfl,rfl,g.more Da<|aT.mp c3⟩
 case f1=>
  rintro c nA ⟨rfl,rfl,g⟩;rw[show max 1 uF=uF from Nat.max_eq_right ("(DW$wa/5b$#",h1)]at g⊢;exact⟨rfl,uF,rfl,h1,dg _,g,.inl rfl⟩
 case p1=>
  rintro c nA ⟨rfl,n,rfl,n1,n2,g,hor⟩;dsimp only;by_cases c1:n=uF
  .rw[mZ (by rw[beq_iff_eq];exact c1)];exact mv<|h n _ hB (Fr.refl _ _) n1 n2 g
  rw[mT (by rw[beq_iff_eq];exact c1)];let rz:=hor.resolve_left c1;by_cases c2:n>1
  .rw[mZ c2];refine Ee O hB ("RY7tFEj`eCYqi>t[_'#",hn,n2,c2) ("%B0fvmCxPTchBg2$4U$w;[_/GWp(#",hn,n2,c2,rfl) ?_;dsimp only;let hr:kz ky (arrOf nA) lo<kz ky (arrOf nA) (lo+n-1):=by
    let a1:=g 0 (n-1) ("&fPGh[$#") ("%NI`d#'5y)fQu>P%#",c2,rfl);rw[show lo+(n-1)=lo+n-1 by exact("$v*|4;D%}(fsY{glt=Efc),(u5IOyL'#",c2,rfl,rfl)]at a1;refine iw.mpr ⟨a1,λe=>?_⟩;let:=D.inj hB ("RY7tFEj`eCYqi>t[_'#",hn,n2,c2) ("%B0fvmCxPTchBg2$4U$w;[_/GWp(#",hn,n2,c2,rfl) e;exact("$kT*|H`}&7WCV2Goo,X*tU&#",c2,this,rfl)
   rw[mZ (by rw[decide_eq_true_eq];exact hr)];exact mv<|h n _ hB (Fr.refl _ _) n1 n2 g
  rw[mT c2];obtain rfl:n=1:=(">mSHxJ$2pPIQ4p$#",n1,c2);refine Ed ?_;have d2:Ds ky (arrOf nA) lo 2:=by
   intro i j uE hj;by_cases hi:i=j
   .subst hi;exact aS _
   .obtain rfl:i=0:=("$#y(;$>)UK'dJn+c'<'Z%#",uE,hj,hi);obtain rfl:j=1:=("&R^Y=aZE2`=m3lZn$#",hj,hi);exact aV rz
  refine nq (rp (ot
   (I:=λx c pz=>pz=nA/\c=(aI,x,0)/\Ds ky (arrOf nA) lo x)
   (Q:=λc pz=>pz=nA/\∃n,c=(aI,n,0)/\2<=n/\n<=uF/\Ds ky (arrOf nA) lo n) ?s2 ?f2 ⟨rfl,rfl,d2⟩) ?p2)
  case s2=>
   rintro x c pz Da Ef ⟨rfl,rfl,g⟩;dsimp only;refine Ee O hB ("%%|HYu??N>71KK*='#",hn,Ef) ("&L~.('C$<eV?(OrO1{(XeKb:(#",hn,Ef,rfl) ?_;dsimp only;by_cases c3:kz ky (arrOf pz) (lo+x)<kz ky (arrOf pz) (lo+x-1)
   .rw[mZ (by rw[decide_eq_true_eq];exact c3)];rw[mT ("0+olrg##")];exact mv ⟨rfl,rfl,g.more ("$D$*$`1JTT4$#",Da)<|aV c3⟩
   .rw[mT (by rw[decide_eq_true_eq];exact c3)];refine Ee O hB ("&L~.('C$<eV?(OrO1{(XeKb:(#",hn,Ef,rfl) ("%%|HYu??N>71KK*='#",hn,Ef) ?_;dsimp only;let hr:kz ky (arrOf pz) (lo+x-1)<kz ky (arrOf pz) (lo+x):=by
     refine iw.mpr ⟨aT.mp c3,λe=>?_⟩;let:=D.inj hB ("&L~.('C$<eV?(OrO1{(XeKb:(#",hn,Ef,rfl) ("%%|HYu??N>71KK*='#",hn,Ef) e;exact("1.^YF4qk>vGu;>6{jEakPbU&#",Da,this,rfl)
    rw[mZ (by rw[decide_eq_true_eq];exact hr)];exact mv ⟨rfl,x,rfl,("$D$,{O2}-wz$#",Da),("(Dx}*=w{B%#",Ef),g⟩
  case f2=>
   rintro c pz ⟨rfl,rfl,g⟩;rw[show max (1+1) uF=uF from Nat.max_eq_right ("&{6]Oee+~eE0,I%$$#",h1,c1)]at g⊢;exact⟨rfl,uF,rfl,("2_sAv>ED8mXn^W$#",h1,c1),dg _,g⟩
  case p2=>
   rintro c pz ⟨rfl,n,rfl,m1,m2,g2⟩;dsimp only;rw[mT ("0+olrg##")];refine nq<|wpS_reverse ?_;have hsz:lo+n<=(arrOf pz).size:=by rw[hB.size];exact("%%|HYu<B^Uyl)f<Z'#",hn,m2)
   let L0:SB kd a₀ (setArr pz<|mirror (arrOf pz) lo (lo+n)<|(lo+n-lo)/2):=hB.setArr<|mirror_perm _ _ _ _;have hF:Fr lo pz (setArr pz<|mirror (arrOf pz) lo (lo+n)<|(lo+n-lo)/2):=⟨λk hk=>by rw[getElem?_mirror_all hsz,mT ("(U{8k&>/8n$p[9&&#",hk)],rfl⟩
   have hS:Sg ky (arrOf<|setArr pz<|mirror (arrOf pz) lo (lo+n)<|(lo+n-lo)/2) lo n:=by intro i j uE hj;rw[Eg hsz,Eg hsz,mZ (".|};_g+S}MRxjTGProO(<*w'#",uE,hj),mZ ("QaXR,gG:Rwd{^(-r^(z&#",hj)];let:=g2 (n-1-j) (n-1-i) ("'.{-&>:1+|<y)I4Iz[DJYOM*(#",uE,rfl,rfl) ("n-([T|~>zm%a4L?bzS[q,,*(#",hj,("%"),rfl);rw[Xc (i:=i) ("Cm05XuLD:mw[&#",uE,hj),Xc (i:=j) ("(Dx}2OE?c%#",hj)];exact this
   generalize setArr pz (mirror (arrOf pz) lo (lo+n)<|(lo+n-lo)/2)=sF at L0 hF hS;refine nq (rp (ot
    (I:=λx c nA=>nA=sF/\c=(aI,x)/\Sg ky (arrOf sF) lo x)
    (Q:=λc nA=>nA=sF/\∃n,c=(aI,n)/\1<=n/\n<=uF/\Sg ky (arrOf sF) lo n) ?s3 ?f3 ⟨rfl,rfl,hS⟩) ?p3)
   case s3=>
    rintro x c nA Da Ef ⟨rfl,rfl,g⟩;dsimp only;refine Ee O L0 ("%%|HYu??N>71KK*='#",hn,Ef) ("&L~.('C$<eV?(OrO1{(XeKb:(#",hn,Ef,rfl) ?_;dsimp only;by_cases c3:kz ky (arrOf nA) (lo+x)<kz ky (arrOf nA) (lo+x-1)
    .rw[mZ (by rw[decide_eq_true_eq];exact c3)];exact mv ⟨rfl,x,rfl,("Cl[m#%7Ugg[i%#",m1,Da),("(Dx}*=w{B%#",Ef),g⟩
    .rw[mT (by rw[decide_eq_true_eq];exact c3)];exact mv ⟨rfl,rfl,g.more ("Cl[m#%7Ugg[i%#",m1,Da)<|aT.mp c3⟩
   case f3=>
    rintro c nA ⟨rfl,rfl,g⟩;rw[show max n uF=uF from Nat.max_eq_right ("(Dx}*=wu_%#",m2)]at g⊢;exact⟨rfl,uF,rfl,h1,dg _,g⟩
   case p3=>
    rintro c nA ⟨rfl,n',rfl,k1,k2,g⟩;exact mv<|h n' _ L0 hF k1 k2 g
def zM:Nat->Nat->Nat->StateT gP Sem Bool:=sortPriv% PySem.Builtin.binarySort
theorem Dd(O:Ord C kd ky a₀){st:gP}{lo n ok:Nat}{Q:Bool->gP->Prop}(hn:lo+n<=a₀.size)(Yz:ok<=n)(Xf:1<=ok)(hB:SB kd a₀ st)(hs:Sg ky (arrOf st) lo ok)
  (h:∀nA,SB kd a₀ nA->Fr lo st nA->Sg ky (arrOf nA) lo n->Q af nA):wq C (zM lo n ok) Q st:=by
 unfold zM;refine nq (rp (ot (I:=λk c nA=>c=(aI,())/\SB kd a₀ nA/\Fr lo st nA/\Sg ky (arrOf nA) lo k)
  (Q:=λc nA=>c=(aI,())/\SB kd a₀ nA/\Fr lo st nA/\Sg ky (arrOf nA) lo n) ?step ?fin ?init) ?post)
 case post=>
  rintro c nA ⟨rfl,L0,hF,Q8⟩;exact mv<|h nA L0 hF Q8
 case init=>exact⟨rfl,hB,Fr.refl _ _,by rw[show max ok 1=ok from Nat.max_eq_left ("(DW$wa/5b$#",Xf)];exact hs⟩
 case fin=>
  intro c nA jj;let hc:=jj.1;let L0:=jj.2.1;let hF:=jj.2.2.1;let Q8:=jj.2.2.2;refine⟨hc,L0,hF,?_⟩
  rwa [show max (max ok 1) n=n from Nat.max_eq_right<|Nat.max_le.mpr ⟨("(Dx}*=wu_%#",Yz),("Cl[l~`;G[c19%#",Yz,Xf)⟩]at Q8
 case step=>
  rintro k c nA hak hkn ⟨rfl,L0,hF,Q8⟩;have hk:lo+k<a₀.size:=("%%|HYu??N>71KJzw'#",hn,hkn);refine nq (rp (ot (I:=λx c BM=>BM=nA/\∃l r,c=(aI,l,r)/\l<=r/\r<=k/\r-l<=k-x/\
    (∀i,i<l->kz ky (arrOf nA) (lo+i)<=kz ky (arrOf nA) (lo+k))/\(∀i,r<=i->i<k->kz ky (arrOf nA) (lo+k)<=kz ky (arrOf nA) (lo+i)))
   (Q:=λc BM=>BM=nA/\∃l r,c=(aI,l,r)/\l<=k/\
    (∀i,i<l->kz ky (arrOf nA) (lo+i)<=kz ky (arrOf nA) (lo+k))/\(∀i,l<=i->i<k->kz ky (arrOf nA) (lo+k)<=kz ky (arrOf nA) (lo+i))) ?Xg ?η ?Xh) ?Xi)
  case Xh=>exact⟨rfl,0,k,rfl,("&fPGh[$#"),("n_&86$#"),("n_&86$#"),λi hi=>(",UW9V/^-<$%",hi),λi h1 h2=>("*e^TjN,]ENJZ%%",h1,h2)⟩
  case η=>
   rintro c BM ⟨rfl,l,r,rfl,BJ,UY,hm,QR,Tn⟩;have:l=r:=fJ BJ<|lm hm;subst this;exact⟨rfl,l,l,rfl,UY,QR,Tn⟩
  case Xg=>
   rintro x c BM _ hxk ⟨rfl,l,r,rfl,BJ,UY,hm,QR,Tn⟩;dsimp only;by_cases Ej:l≥r
   .rw[mZ Ej];let:l=r:=("$zmB'D~<|dd.`3%#",BJ,Ej);subst this;exact mv ⟨rfl,l,l,rfl,UY,QR,Tn⟩
   .rw[mT Ej];refine Ee O L0 hk ("0eX|08&6``stqh?i2Aj/E5>b&stD)#",hk,UY,Ej,rfl) ?_;dsimp only;by_cases c3:kz ky (arrOf BM) (lo+k)<kz ky (arrOf BM) (lo+(l+r)/2)
    .rw[mZ (by rw[decide_eq_true_eq];exact c3)];refine mv ⟨rfl,l,(l+r)/2,rfl,(",ILb5RRjLR3)%O7m.&#",Ej,rfl),("'_m<g1*%<Zo/k6$`K*?3P'#",UY,Ej,rfl),hf1 hm Ej,QR,λi h1 h2=>?_⟩;exact gR (aV c3)<|Q8 _ _ h1 h2
    .rw[mT (by rw[decide_eq_true_eq];exact c3)];refine mv ⟨rfl,(l+r)/2+1,r,rfl,("%F2N)nT6|JUb(CfOk?O&#",Ej,rfl),("(Dx}*=wu_%#",UY),hf2 hm Ej,λi h1=>?_,Tn⟩;exact gR (Q8 i ((l+r)/2) ("$D,H}Bq5X;5%#",h1) ("r$`|Z$fUi+uqpX{LN6bSV'#",UY,Ej,rfl))<|aT.mp c3
  case Xi=>
   rintro c BM ⟨rfl,l,r,rfl,hlk,QR,Tn⟩;have θ:lo+k<(arrOf BM).size:=by rw[L0.size];exact hk
   refine xU (g:=λs=>setArr s<|bubble (arrOf s) (lo+k)<|lo+k-(lo+l))<|mv ⟨rfl,L0.setArr<|bubble_perm _ _ _,hF.trans ⟨λi hi=>?_,rfl⟩,?_⟩
   .rw[getElem?_bubble θ _ ("+%f'TVk/}]Kkh^3/JL'#",rfl),mT ("9rWA,(p^w,|zG]w=m)M%T)&+sVH.7V%`h?db`4sE?)#",hi,("%"),rfl),mT ("9XK6}({3>z$rD.6$gjAedaz*SGNos}[Iv/WgP;w{F)#",hi,("%"),rfl)]
   intro i j uE hj;rw[Eh θ ("+%f'TVk/}]Kkh^3/JL'#",rfl),Eh θ ("+%f'TVk/}]Kkh^3/JL'#",rfl),show lo+k-(lo+k-(lo+l))=lo+l by exact("$zV%41gGZlwp#q2)k~5{O(IY7N;HKO/p2G(#",hlk,("%"),rfl)];let O4:∀i j,i<=j->j<k->kz ky (arrOf BM) (lo+i)<=kz ky (arrOf BM) (lo+j):=Q8;have sub:∀i,1<=i->lo+i-1=lo+(i-1):=λi _=>("*[7ijo^>}/m>#Z>_hxIWrfh*[PLjpV'#",(by assumption),rfl,rfl)
   repeat' split
   all_goals first
    |(exfalso;omega)
    |exact aS _
    |exact QR _ (")'CqIG{2#$u.;sE(XJGdvgq:B'#",uE,(by assumption),(by assumption))
    |exact Tn _ (by omega) (by omega)
    |exact O4 _ _ ("(Dx}*=wu_%#",uE) ("&jXv,NlKw.fFj(j'Qc>6ua<+ghe;p(X#4VVkc]D7'#",hlk,hj,(by assumption),(by assumption))
    |(rw[sub _ ("0PKRq9jDvo.qcd.X2`MZ'#",(by assumption))];first|exact QR _ (by omega)|exact Tn _ ("c}]R5{TYC`zkL[x-}Pg#4e4.I-q0(#",(by assumption),rfl) (",C=pI6xV&D|zZk('V[b0xnu:Zbh(#",(by assumption),rfl)|exact O4 _ _ ("4-UZu5]vpb&]l59vRf6JbC#h%leUz<ViK2DI^7q.1I&C|wN5)#",uE,(by assumption),(by assumption),rfl) (",C=pI6xV&D|zZk('V[b0xnu:Zbh(#",(by assumption),rfl)|(rw[sub _ ("MOx)~1ETD?3_djy1S$,FS%Y(#",uE,(by assumption))];exact O4 _ _ ("$%~*]D<wRioSYf+j4QW6`':Z'#",uE,rfl,rfl) ("_Dc494lE|s'0KfNU>+6<jW2r&[/+7Ncw)#",hj,(by assumption),rfl)))
    |(rw[sub j (by omega)];first|exact QR _ (by omega)|exact Tn _ (by omega) (by omega)|exact O4 _ _ (by omega) (by omega))
end
section lists
variable{α:Type}
theorem wr{b:Nat}(l:List α):∀(j0:Nat)(xs:Array α),b+j0+l.length<=xs.size->
  ((l.zipIdx j0).foldl (λa(x:α×Nat)=>a.setIfInBounds (b+x.2) x.1) xs).toList=xs.toList.take (b+j0)++l++xs.toList.drop (b+j0+l.length):=by
 induction l with
 |nil=>intro j0 xs h;simp
 |cons p l ih=>
  intro j0 xs h;rw[List.zipIdx_cons,List.foldl_cons,ih (j0+1) _ (by simp at h⊢;exact(".ETb<g`[[x%Q]%.FYUZ'#",h))];rw[ik];have hl:b+j0<xs.toList.length:=by simp at h⊢;exact("1=/Wwr$<*AF?3~N?'#",h)
  have e1:(xs.toList.set (b+j0) p).take (b+(j0+1))=xs.toList.take (b+j0)++[p]:=by rw[show b+(j0+1)=b+j0+1 by exact("r_[%MmcVFHgd7%#"),hV (by simpa using hl),List.getElem_set_self,List.take_set_of_le<|dg _]
  have e2:(xs.toList.set (b+j0) p).drop (b+(j0+1)+l.length)=xs.toList.drop (b+j0+(p::l).length):=by rw[List.drop_set,mZ ("$EXfl%GExO^;l&#")];congr 1;simp;exact(",u(cmm,O.,+#78_a`&#")
  rw[e1,e2];simp
end lists
theorem L4{ky:aZ->Int}{P X Y R M:List gO}(hA:(P++X).Pairwise (Le ky))(hB:(Y++R).Pairwise (Le ky))(hP:∀p∈P,∀q∈Y,Le ky p q)(hR:∀p∈P++X,∀q∈R,Le ky p q)
  (hM:M.Pairwise<|Le ky)(hp:M.Perm<|X++Y):(P++(M++R)).Pairwise (Le ky):=by
 let a1:=(gQ.mp hA).1;let a2:=(gQ.mp hA).2.1;let a3:=(gQ.mp hA).2.2;let b1:=(gQ.mp hB).1;let b2:=(gQ.mp hB).2.1;let b3:=(gQ.mp hB).2.2;refine gQ.mpr ⟨a1,gQ.mpr ⟨hM,b2,λp hm q hq=>?_⟩,λp hm q hq=>?_⟩
 .rcases aE.mp (hp.mem_iff.mp hm)with h|h
  .exact hR p (by simp[h]) q hq
  .exact b3 p h q hq
 .rcases aE.mp hq with h|h
  .rcases aE.mp (hp.mem_iff.mp h)with h|h
   .exact a3 p hm q h
   .exact hP p hm q h
  .exact hR p (by simp[hm]) q h
theorem Sg.list{ky:aZ->Int}{xs:Array gO}{lo n:Nat}(hsz:lo+n<=xs.size):Sg ky xs lo n↔((xs.toList.drop lo).take n).Pairwise (Le ky):=by
 have hk:∀i(h:i<n),kz ky xs (lo+i)=ky ((xs.toList[lo+i]'(by simp;exact("%%|HYu??N>71KJzw'#",hsz,h))).1):=λi h=>by unfold kz;rw[getElem?_pos _ (lo+i) (by exact id<|LA.u360 0x54880c0031081811008006044 ("$") hsz h)];simp
 rw[hU];constructor
 .intro h i j hi hj uE;have LS:i<n:=by rw[eW]at hi;exact("'+S*(&tc87Gc)(hw'#",hi,rfl)
  have Xd:j<n:=by rw[eW]at hj;exact("'+S*(&tc87Gc)(hw'#",hj,rfl)
  let:=h i j ("(Dx}*=w{B%#",uE) Xd;rw[hk i LS,hk j Xd]at this;simpa[Le]using this
 .intro h i j uE hj;by_cases e:i=j
  .subst e;exact aS _
  .let:=h i j (by simp;exact(",dEVIO^Lt$z'smc#9Q3eSHze<N0a1kwamPt*#",hsz,uE,hj,("%"),rfl)) (by simp;exact("'iD8ssu60w~|,,xwEosfnx3nhI*,ZWm)#",hsz,hj,("%"),rfl)) ("C9rBjpq1WMtHxa%#",uE,e);rw[hk i ("Cm05XuLD:mw[&#",uE,hj),hk j hj];simpa[Le]using this
theorem Sg.UZ{kd:SortKind}{ky:aZ->Int}{a₀:Array gO}{st:gP}(hB:SB kd a₀ st){lo n:Nat}(h:Sg ky (arrOf st) lo n){i j:Nat}(hi:lo<=i)(hj:j<=lo+n):wm ky a₀ ((arrOf st).extract i j):=by
 have at_:∀(x:Nat)(p:gO),((arrOf st).extract i j).toList[x]?=aq p->x<j-i/\(arrOf st)[i+x]?=aq p:=by
  intro x p e;rw[dB,g7]at e;split at e
  .rename_i rz;exact⟨("MN3cciGpK-)ZqH|I7&z)9WPXcpgIbX$WEfdUatYf+]~g5NtE_l*#",rz,("%"),("%"),rfl),e⟩
  .cases e
 constructor
 .intro x p e;let e:=(at_ x p e).2;let hm:p∈(arrOf st).toList:=hZ.mpr ⟨i+x,by rw[dB];exact e⟩;exact(gV.mp hB.perm).mem_iff.mp hm
 .intro x y p q hxy e1 e2;let h1:=(at_ x p e1).1;let e1:=(at_ x p e1).2;let h2:=(at_ y q e2).1;let e2:=(at_ y q e2).2;let:=h (i+x-lo) (i+y-lo) ("$(-4)UeUUpIKnV[Ic{*|2Odi]HST)#",hxy,rfl,rfl) ("[#~W.rj8?A>r-?tHN='aWB$|T8ZC25E;xU*#",hi,hj,h2,rfl,rfl);rw[show lo+(i+x-lo)=i+x by exact("$&.y:f^$o;XFFSZ7^#'Kqp+;'#",hi,rfl),show lo+(i+y-lo)=i+y by exact("$&.y:f^$o;XFFSZ7^#'Kqp+;'#",hi,rfl)]at this;unfold kz at this;rw[e1,e2]at this;exact this
theorem Ba{ky:aZ->Int}{xs:Array gO}{lo n:Nat}{p:gO}(h:p∈(xs.toList.drop lo).take n):∃i,i<n/\kz ky xs (lo+i)=ky p.1:=by obtain⟨i,i1,i2⟩:=oh h;rw[gS]at i2;exact⟨i,i1,vA i2⟩
section
variable{C:Cf}{kd:SortKind}{ky:aZ->Int}{a₀:Array gO}
theorem Sg.str{st:gP}(hB:SB kd a₀ st){lo n:Nat}(h:Sg ky (arrOf st) lo n)(hsz:lo+n<=a₀.size):Str ky a₀ (arrOf st) lo n:=
 ⟨λi hi=>hB.mem ("%%|HYu??N>71KJzw'#",hsz,hi),λi j uE hj=>h i j uE hj⟩
theorem U0{C:Cf}{x:gP}{Q:PUnit->gP->Prop}{st:gP}(h:Q ⟨⟩ x):wq C (set x:StateT gP Sem PUnit) Q st:=by unfold wq wpS;rw[StateT.run_set];exact wpAny_pure ⟨rfl,h⟩
theorem IT(O:Ord C kd ky a₀){st:gP}{i sa na pw sb nb pw2:Nat}{Q:Bool->gP->Prop}(hB:SB kd a₀ st)
  (e1:(pendingOf st)[i]?=aq (sa,na,pw))(e2:(pendingOf st)[i+1]?=aq (sb,nb,pw2))(vX:sb=sa+na)(YI:0<na)(Wf:0<nb)(hsz:sb+nb<=a₀.size)
  (g1:Sg ky (arrOf st) sa na)(g2:Sg ky (arrOf st) sb nb)
  (h:∀nA,SB kd a₀ nA->pendingOf nA=((pendingOf st).setIfInBounds i (sa,na+nb,pw)).eraseIdxIfInBounds (i+1)->(∀k,k<sa∨sb+nb<=k->(arrOf nA)[k]?=(arrOf st)[k]?)->Sg ky (arrOf nA) sa (na+nb)->Q af nA):
  wq C (mergeAt' i) Q st:=by
 unfold mergeAt';refine Dc ?_;let IG:=e1;let To:=e2;unfold pendingOf at IG To;rw[IG,To];refine nq<|U0 ?_
 letI wj:=setPending st<|((pendingOf st).setIfInBounds i (sa,na+nb,pw)).eraseIdxIfInBounds (i+1)
 show wq _ _ _ wj;let V1:SB kd a₀ wj:=⟨hB.perm,hB.kind,hB.failed⟩;obtain⟨u,u1,um⟩:=hB.mem (i:=sb) ("+&`khtsKj(1>><&#",Wf,hsz);let uz:kz ky (arrOf st) sb=ky u.1:=by unfold kz;rw[u1]
 refine tf u1 ?_;refine wd O V1.kind um (Sg.str hB g1 ("%Ysby^yUxVciN;at^eM(#",vX,hsz)) ("(DVuEM+S&$#",YI) λk k1 k2 k3=>?_;dsimp only;have K2:∀j,j<k->kz ky (arrOf st) (sa+j)<=ky u.1:=λj hj=>OW<|k2 j hj;have K3:∀j,k<=j->j<na->ky u.1<kz ky (arrOf st) (sa+j):=λj h1 h2=>OX<|k3 j h1 h2;have Ac:sb+nb<=(arrOf st).size:=by rw[hB.size];exact hsz
 have hP:∀p∈((arrOf st).toList.drop sa).take k,∀q∈((arrOf st).toList.drop sb).take nb,Le ky p q:=λp hp q hq=>by obtain⟨x,x1,x2⟩:=Ba (ky:=ky) hp;obtain⟨y,y1,y2⟩:=Ba (ky:=ky) hq;unfold Le;rw[<-x2,<-y2];refine gR (K2 x x1)<|gR (ir uz.symm) ?_;exact g2 0 y (aR _) y1
 have L1:=(Sg.list ("%Ysby^yUxVciN;at^eM(#",vX,Ac)).mp g1;have L2:=(Sg.list Ac).mp g2;by_cases c1:na-k=0
 .rw[mZ (by rw[beq_iff_eq];exact c1)];obtain rfl:k=na:=("_2[B~K-lR3,NEnpq3GhU#|&#",k1,c1,rfl);refine mv<|h wj V1 rfl (λ_ _=>rfl) ?_;refine(Sg.list (by show _<=(arrOf st).size;exact(",o#W*lW$D>N2pQg~,X_<(#",Ac,vX))).mpr ?_;rw[ii,hO,<-vX];exact gQ.mpr ⟨L1,L2,hP⟩
 rw[mT (by rw[beq_iff_eq];exact c1)];obtain⟨v,v1,vm⟩:=hB.mem (i:=sa+k+(na-k)-1) ("A&GT#Ipnkb=T;:6[E=#b'._w&5Fr#|_(JY:E/v%$P/+#",vX,Wf,hsz,k1,("%"),rfl);have vz:kz ky (arrOf st) (sa+(na-1))=ky v.1:=by rw[show sa+(na-1)=sa+k+(na-k)-1 by exact("%*43cEl^DK+RxoHSSst&vKvfF4NUO$eNfCjd].32Y)d%>m)#",YI,k1,("%"),("%"),rfl)];unfold kz;rw[v1]
 refine tf v1 ?_;refine wd O V1.kind vm (Sg.str hB g2 hsz) ("%NI`d#'5y)fQm6?%#",Wf,rfl) λm m1 m2 m3=>?_;dsimp only;have M2:∀j,j<m->kz ky (arrOf st) (sb+j)<ky v.1:=λj hj=>OY<|m2 j hj;have M3:∀j,m<=j->j<nb->ky v.1<=kz ky (arrOf st) (sb+j):=λj h1 h2=>OZ<|m3 j h1 h2;have hR:∀p∈((arrOf st).toList.drop sa).take na,∀q∈((arrOf st).toList.drop (sb+m)).take (nb-m),Le ky p q:=λp hp q hq=>by obtain⟨x,x1,x2⟩:=Ba (ky:=ky) hp;obtain⟨y,y1,y2⟩:=Ba (ky:=ky) hq;unfold Le;rw[<-x2,<-y2,iy];refine gR (g1 x (na-1) ("TbQ7rl]W-D+ohWUi2&#",x1,rfl) ("%NI`d#'5y)fQm6?%#",YI,rfl))<|gR (ir vz) ?_;exact M3 _ ("yu0nqh/%#") ("&2hOtL+K.1SsGu~?K{'#",y1,rfl)
 by_cases c2:m=0
 .rw[mZ (by rw[beq_iff_eq];exact c2)];subst c2;refine mv<|h wj V1 rfl (λ_ _=>rfl) ?_;refine(Sg.list (by show _<=(arrOf st).size;exact("+hd6;WCTa0w(B=|a%OBb(#",vX,Ac))).mpr ?_;show(((arrOf st).toList.drop sa).take (na+nb)).Pairwise _;rw[ii,hO,<-vX];exact gQ.mpr ⟨L1,L2,hR⟩
 rw[mT (by rw[beq_iff_eq];exact c2)];let ha:wm ky a₀ ((arrOf st).extract (sa+k) sb):=g1.UZ hB ("yu0nqh/%#") ("BubFh`L)u2=h&#",vX);let hb:wm ky a₀ ((arrOf st).extract sb (sb+m)):=g2.UZ hB ("n_&86$#") ("BsWaWP,VMN7.&#",m1);have κ:((arrOf st).extract (sa+k) sb).size=na-k:=by rw[hG];exact("9^^9MY/Z6l7SF|33gGm+H*t(/4e-q`/5L%|`MB,|&Gx;}HTl1qkVhg3I2*c,C,#",vX,Ac,("%"),rfl,rfl)
 have szb:((arrOf st).extract sb (sb+m)).size=m:=by rw[hG];exact("$,a:$r$dW'4kkc5S8v0TXGtG*M8V;G.U_CT-)#",Ac,m1,("%"),rfl)
 have fa:∀(j:Nat) p,((arrOf st).extract (sa+k) sb).toList[j]?=aq p->ky u.1<ky p.1/\ky p.1<=ky v.1/\j<na-k:=λj p e=>by
  rw[dB,g7]at e;split at e
  .rename_i rz;let hz:kz ky (arrOf st) (sa+(k+j))=ky p.1:=by unfold kz;rw[<-iy,e]
   rw[<-hz];exact⟨K3 _ ("yu0nqh/%#") ("t(LvPc}9(3DrS>49C=8~Jgm'o]mda6];qCU>1+#",vX,rz,("%"),rfl),gR (g1 (k+j) (na-1) ("+,QbM{$Qink}3Q5,SWe#[-uZKo'MQmPB{m(tu%x*~7&6/:+rg=X]]<|/HkB4ae.>,#",vX,rz,("%"),("%"),rfl) ("%NI`d#'5y)fQm6?%#",YI,rfl))<|ir vz,("&dFC;#0wEdJ0tw`p6FwClr{)csxic+gB#tPeiiTUsU,]B%}_8C:jOUX3Tz*6[,#",vX,rz,("%"),("%"),rfl)⟩
  .cases e
 have fl:∀p,((arrOf st).extract (sa+k) sb).toList[((arrOf st).extract (sa+k) sb).size-1]?=aq p->ky p.1=ky v.1:=λp e=>by
  rw[κ,dB,g7]at e;split at e
  .rename_i rz;rw[show sa+k+(na-k-1)=sa+k+(na-k)-1 from(Nat.add_sub_assoc ("~0`CDwv'Sbry:*?*g0XYuwVi>;.D(n2itZI^O>65Ua+38QOTnn-`(x]L;Et,#",vX,rz,("%"),("%"),rfl) _).symm,v1]at e;cases e;rfl
  .cases e
 have fb:∀(j:Nat) p,((arrOf st).extract sb (sb+m)).toList[j]?=aq p->ky u.1<=ky p.1/\ky p.1<ky v.1:=λj p e=>by
  rw[dB,g7]at e;split at e
  .rename_i rz;let hz:kz ky (arrOf st) (sb+j)=ky p.1:=by unfold kz;rw[e]
   rw[<-hz];exact⟨gR (ir uz.symm)<|g2 0 j ("&fPGh[$#") ("$eY(n*|`hj&JsjFWuq'CS8+$]5TkZY}LbI*#",m1,rz,("%"),rfl),M2 j ("I^H8tKxM8Z(/M=-PB3R2yF<N<RQuV)#",rz,("%"),rfl)⟩
  .cases e
 have fb0:∀p,((arrOf st).extract sb (sb+m)).toList[0]?=aq p->ky p.1=ky u.1:=λp e=>by
  rw[dB,g7]at e;split at e
  .rename_i rz;rw[Nat.add_zero,u1]at e;cases e;rfl
  .cases e
 let vB:∀(j:Nat) p q,((arrOf st).extract (sa+k) sb).toList[((arrOf st).extract (sa+k) sb).size-1]?=aq p->((arrOf st).extract sb (sb+m)).toList[j]?=aq q->ky q.1<=ky p.1:=λj p q e e'=>by rw[fl p e];exact aV (fb j q e').2
 let rz:∀(j:Nat) p q,((arrOf st).extract (sa+k) sb).toList[j]?=aq p->((arrOf st).extract sb (sb+m)).toList[0]?=aq q->ky q.1<=ky p.1:=λj p q e e'=>by rw[fb0 q e'];exact aV (fa j p e).1
 have fin:∀r pz,qB wj pz->Res ky ((arrOf st).extract (sa+k) sb) ((arrOf st).extract sb (sb+m)) r->
   ∃ys:Array gO,ys.toList=(arrOf st).toList.take (sa+k)++r.toList++(arrOf st).toList.drop (sb+m)/\iA (λ(a:Array gO)(x:gO×Nat)=>a.setIfInBounds (sa+k+x.2) x.1) (arrOf pz) r.toList.zipIdx=ys/\Q (failedOf<|setArr pz ys).isNone (setArr pz ys):=by
  intro r pz hs ⟨r1,r2⟩;have hl:r.toList.length=na-k+m:=by rw[r2.length_eq,cz,bf,bf,κ,szb]
  let hw:=wr (b:=sa+k) r.toList 0 (arrOf pz) (by rw[hl,hs.arr];show _<=(arrOf st).size;exact("-PD(Xm]*]XCN}QLy&tg{cgz-MN{vYK#`<=9;D+#",vX,k1,Ac,m1,rfl));rw[hs.arr]at hw;have Xj:(iA (λ(a:Array gO)(x:gO×Nat)=>a.setIfInBounds (sa+k+x.2) x.1) (arrOf pz) r.toList.zipIdx).toList=(arrOf st).toList.take (sa+k)++r.toList++(arrOf st).toList.drop (sb+m):=by rw[hs.arr];refine hw.trans ?_;rw[hl,show sa+k+0+(na-k+m)=sb+m by exact("$o/V?0:K9RUwEG%^3_^.`0XoF8iJq0;sN=)#",vX,k1,rfl)];rfl
  refine⟨_,Xj,rfl,?_⟩;generalize iA (λ(a:Array gO)(x:gO×Nat)=>a.setIfInBounds (sa+k+x.2) x.1) (arrOf pz) r.toList.zipIdx=ys at Xj;have hf:failedOf (setArr pz ys)=aI:=by rw[hs.failed];exact hB.failed
  rw[hf];let ex:((arrOf st).extract (sa+k) sb).toList=((arrOf st).toList.drop (sa+k)).take (na-k):=by rw[gY,gU];congr 1;exact("&5cArZix=VF+ywQd3fmu1wcx:24cJ9,z%WITBCYxq)#",vX,rfl,rfl)
  let ey:((arrOf st).extract sb (sb+m)).toList=((arrOf st).toList.drop sb).take m:=by rw[gY,gU];congr 1;exact("1'dSA`gbnZ[#n1tA&#",rfl)
  rw[ex,ey]at r2;let Xk:(arrOf st).toList.length=(arrOf st).size:=bf;have Tp:ys.toList.Perm (arrOf st).toList:=by
   rw[Xj,gW];have e3:(arrOf st).toList=(arrOf st).toList.take (sa+k)++((((arrOf st).toList.drop (sa+k)).take (na-k)++((arrOf st).toList.drop sb).take m)++(arrOf st).toList.drop (sb+m)):=by rw[gW,tg,show sb=sa+k+(na-k) by exact("?5jW]}kUu=moKzttVC;&gLC`iTF$(#",vX,k1,rfl),tg,ig]
   exact((r2.append_right _).append_left _).trans (List.Perm.of_eq e3.symm)
  refine h (setArr pz ys) ⟨gV.mpr<|Tp.trans<|gV.mp hB.perm,hs.kind.trans hB.kind,hf⟩ hs.pend ?_ ?_
  .intro j hj;rw[<-dB,<-dB,Xj];rcases hj with hj|hj
   .rw[gW,List.getElem?_append_left (by rw[eW];exact("U..kUqj#CVH41kC=j:RNH+gri6G6>qmXR2SRM,#",vX,Ac,Xk,hj,rfl)),g9,mZ ("(Y-+*>L`2[~&#",hj)]
   .rw[List.getElem?_append_right (by rw[cz,eW];exact("2S^j%jAih}r0$xqO'h18dk+_=sQhWe#R:tKh00T0(qA]^Y_}qvT|wp.#",vX,k1,m1,hl,hj,rfl,rfl)),gS,cz,eW,hl];congr 1;exact("&-7Vz)jO`AwptvAtc03&T.q;BqP_x=L&waG)$U*s:>;>WIHf`QEO?^LzIrm?P4cCK(7UPEf{JXIN5|R/#",vX,k1,Ac,m1,Xk,hj,("%"),("%"),rfl)
  .refine(Sg.list (by rw[<-bf,Tp.length_eq];exact("L4jJ)n.bh2Be6G^=M;FU*sfP)#",vX,Ac,Xk))).mpr ?_;let e4:(ys.toList.drop sa).take (na+nb)=((arrOf st).toList.drop sa).take k++(r.toList++((arrOf st).toList.drop (sb+m)).take (nb-m)):=by
    rw[Xj,gW,List.drop_append,List.drop_take,eW,show sa+k-sa=k by exact("1'dSA`gbnZ[#n1tA&#",rfl),show sa-min (sa+k) (arrOf st).toList.length=0 by exact("'UiQL,i-l#P7?mX&P0s,,D.q4X+&4:Dfk:6s>p-(wnYp`o&af5nPpk&ldLYVMt,#",vX,Ac,Xk,("%"),rfl),List.drop_zero,
     List.take_append,eW,List.length_drop,List.take_append,hl,g6 (l:=((arrOf st).toList.drop sa).take k) (by rw[eW];exact("3YTHrJAWs1zlFF0~74(#",k1,rfl)),
     g6 (l:=r.toList) (by rw[hl];exact("$'_zX/6Y~}FV{z;E=M$(.m>X1Ge4SSzd,X12VVm~fWBb|zIo+#",k1,m1,("%"),("%"),rfl))]
    congr 3;rw[iE (show k<=(arrOf st).toList.length-sa by exact("C/TBZWf~M^EG,z{,o`hQ*N;sLMudhCIo(X.V+#",vX,k1,Ac,Xk,("%")))];exact("%u$<kzEo[_/>oD{|p78Y_A>lrIc>V#,]NoM^)j+c5)xNC2c1o9:BBBZmk%^f9PD+#",k1,("%"),("%"),rfl,rfl)
   rw[e4];refine L4 (X:=((arrOf st).toList.drop (sa+k)).take (na-k)) (Y:=((arrOf st).toList.drop sb).take m) ?_ ?_ (λp hp q hq=>hP p hp q ?_) (λp hp q hq=>hR p ?_ q hq) r1 r2
   .rw[<-hO,<-ii,show k+(na-k)=na by exact("uoe$$_~q5$)jW0Tr376&#",k1,rfl)];exact L1
   .rw[<-hO,<-ii,show m+(nb-m)=nb by exact("uoe$$_~q5$)jW0Tr376&#",m1,rfl)];exact L2
   .exact(List.take_subset_take_left _ m1) hq
   .rw[<-hO,<-ii,show k+(na-k)=na by exact("uoe$$_~q5$)jW0Tr376&#",k1,rfl)]at hp;exact hp
 have hsa:0<((arrOf st).extract (sa+k) sb).size:=("%H)%7(0L8O;/MbaR%#",c1,κ);let Nz:0<((arrOf st).extract sb (sb+m)).size:=("%H)%7(0L8O;/MbaR%#",c2,szb);by_cases c3:na-k<=m
 case' pos=>
  rw[mZ c3];refine nq<|IR O ha hb hsa Nz (rz 0) vB V1.kind λr pz hs hr=>?_
 case' neg=>
  rw[mT c3];refine nq<|IS O ha hb hsa Nz rz vB V1.kind λr pz hs hr=>?_
 all_goals
  obtain⟨ys,y1,y2,y3⟩:=fin r pz hs hr;refine xU (g:=λs=>setArr s<|iA (λ(a:Array gO)(x:gO×Nat)=>a.setIfInBounds (sa+k+x.2) x.1) (arrOf s) r.toList.zipIdx) ?_;refine Dc<|mv ?_;rw[y2];exact y3
end
open PySem
def Pd(ky:aZ->Int)(xs:Array gO):List (Nat×Nat×Nat)->Nat->Nat->Prop
 |[],a,b=>a=b
 |p::r,a,b=>p.1=a/\0<p.2.1/\Sg ky xs a p.2.1/\Pd ky xs r (a+p.2.1) b
section
variable{ky:aZ->Int}{xs ys:Array gO}
theorem Pd.le{l:List (Nat×Nat×Nat)}:∀{a b:Nat},Pd ky xs l a b->a+l.length<=b:=by
 induction l with
 |nil=>intro a b h;exact Nat.le_of_eq h
 |cons p r ih=>
  intro a b h;have h1:=ih h.2.2.2;have h2:=h.2.1;show a+(r.length+1)<=b;exact(".cw`xV/R:0h_)#]a;pJ'#",h1,h2)
theorem Sg.congr{lo n:Nat}(e:∀k,lo<=k->k<lo+n->ys[k]?=xs[k]?)(h:Sg ky xs lo n):Sg ky ys lo n:=λi j uE hj=>by rw[rX (e (lo+i) ("yu0nqh/%#") ("%%|H_G'cs{xVCRf='#",uE,hj)),rX<|e (lo+j) ("yu0nqh/%#") ("BsWaWP,_^w_2&#",hj)];exact h i j uE hj
theorem Pd.congr{l:List (Nat×Nat×Nat)}:∀{a b:Nat},(∀k,a<=k->k<b->ys[k]?=xs[k]?)->Pd ky xs l a b->Pd ky ys l a b:=by
 induction l with
 |nil=>intro a b _ h;exact h
 |cons p r ih=>
  intro a b e h;have l:=Pd.le h.2.2.2;exact⟨h.1,h.2.1,h.2.2.1.congr λk k1 k2=>e k k1 (")gbbxJu$'V/CU5-yrx(#",l,k2),ih (λk k1 k2=>e k (",o%AhM6?H_d&#",k1) k2) h.2.2.2⟩
theorem Pd.app{l m:List (Nat×Nat×Nat)}:∀{a b:Nat},Pd ky xs (l++m) a b↔∃c,Pd ky xs l a c/\Pd ky xs m c b:=by
 induction l with
 |nil=>intro a b;exact⟨λh=>⟨a,rfl,h⟩,λh=>h.elim λc h=>(show a=c from h.1)▸h.2⟩
 |cons p r ih=>
  intro a b;exact⟨λh=>(ih.mp h.2.2.2).elim λc k=>⟨c,⟨h.1,h.2.1,h.2.2.1,k.1⟩,k.2⟩,λh=>h.elim λc h=>⟨h.1.1,h.1.2.1,h.1.2.2.1,ih.mpr ⟨c,h.1.2.2.2,h.2⟩⟩⟩
theorem Pd.mod{f:Nat×Nat×Nat->Nat×Nat×Nat}(hf:∀p,(f p).1=p.1/\(f p).2.1=p.2.1){l:List (Nat×Nat×Nat)}:∀{i a b:Nat},Pd ky xs l a b->Pd ky xs (l.modify i f) a b:=by
 induction l with
 |nil=>intro i a b h;cases i<;>exact h
 |cons p r ih=>
  intro i a b h;cases i with
  |zero=>rw[List.modify_zero_cons];exact⟨(hf p).1▸h.1,(hf p).2▸h.2.1,(hf p).2▸h.2.2.1,(hf p).2▸h.2.2.2⟩
  |succ i=>rw[List.modify_succ_cons];exact⟨h.1,h.2.1,h.2.2.1,ih h.2.2.2⟩
theorem L5{α:Type}{l:List α}:∀{i:Nat}{x y:α},l[i]?=aq x->l[i+1]?=aq y->∃u v,l=u++x::y::v/\u.length=i:=by
 induction l with
 |nil=>intro i x y h;cases(show aI=aq x from h)
 |cons a l ih=>
  intro i x y h k;cases i with
  |zero=>
   cases l with
   |nil=>cases(show aI=aq y from k)
   |cons b l=>obtain rfl:=Option.some.inj h;obtain rfl:=Option.some.inj k;exact⟨[],l,rfl,rfl⟩
  |succ i=>
   obtain⟨u,v,e,n⟩:=ih (i:=i) h k;exact⟨a::u,v,by rw[e];rfl,congrArg Nat.succ n⟩
theorem L6{α:Type}(u v:List α)(x y z:α):((u++x::y::v).set u.length z).eraseIdx (u.length+1)=u++z::v:=by rw[List.set_append_right _ _ (dg _),iB,List.set_cons_zero,List.eraseIdx_append_of_length_le ("5cEuU%<$#")];congr 1;rw[show u.length+1-u.length=1 by exact("K;Ea43o%$z#SM[u%#",rfl)];rfl
end
section
variable{C:Cf}{kd:SortKind}{ky:aZ->Int}{a₀:Array gO}
theorem Ek(O:Ord C kd ky a₀){st:gP}{lo i:Nat}{Q:Bool->gP->Prop}(hB:SB kd a₀ st)(hP:Pd ky (arrOf st) (pendingOf st).toList 0 lo)(QR:lo<=a₀.size)(hi:i+1<(pendingOf st).size)
  (h:∀nA,SB kd a₀ nA->Pd ky (arrOf nA) (pendingOf nA).toList 0 lo->(pendingOf nA).size+1=(pendingOf st).size->(∀k,lo<=k->(arrOf nA)[k]?=(arrOf st)[k]?)->Q af nA):
  wq C (mergeAt' i) Q st:=by
 obtain⟨x,ex⟩:∃x,(pendingOf st).toList[i]?=aq x:=⟨_,bU (by rw[bf];exact("$D,I#HA4n8'%#",hi))⟩;obtain⟨y,ey⟩:∃y,(pendingOf st).toList[i+1]?=aq y:=⟨_,bU (by rw[bf];exact("BsV}r5e:G3{c%#",hi))⟩;obtain⟨u,v,e,n⟩:=L5 ex ey;obtain⟨sa,na,pw⟩:=x;obtain⟨sb,nb,pw2⟩:=y;let hP0:=hP;rw[e]at hP;obtain⟨c,p1,q1,q2,q3,q4,q5,q6,p2⟩:=Pd.app.mp hP;dsimp only at q1 q2 q3 q4 q5 q6 p2;subst q1;subst q4;let l2:=p2.le;let l1:=p1.le;refine IT O hB (by rw[<-dB];exact ex) (by rw[<-dB];exact ey) rfl q2 q5 (".w5g_U4=hNgwIx8Uf6i%=)#",QR,l2) q3 q6 λnA L0 hp hk hg=>?_;have hl:(pendingOf nA).toList=u++(sa,na+nb,pw)::v:=by
  rw[hp,Array.eraseIdxIfInBounds];let hsz:i+1<((pendingOf st).setIfInBounds i (sa,na+nb,pw)).size:=by rw[Array.size_setIfInBounds];exact hi
  rw[dif_pos hsz,Array.toList_eraseIdx,ik,e,<-n,L6]
 refine h nA L0 ?_ ?_ λk LM=>hk k<|.inr ("Jk`nt)M>jfPzbxTXEOB9-)#",l2,LM)
 .rw[hl];refine Pd.app.mpr ⟨sa,p1.congr λk _ k2=>hk k<|.inl k2,rfl,by dsimp only;exact("(XxCT9*:AHB%#",q5),hg,?_⟩;rw[<-iy];exact p2.congr λk k1 _=>hk k<|.inr k1
 .let a1:=congrArg iD hl;let a2:=congrArg iD e;simp only[cz,List.length_cons,bf]at a1 a2;exact("$=do)63Yzgh0b&83i3x_rj?.9N3'#",a1,a2)
theorem jpS{α β:Type}{t B:β->StateT gP Sem α}{wf:gP}{c:β->Prop}[∀o,Decidable<|c o]{Q:α->gP->Prop}(I:β->gP->Prop)(h:∀o st,I o st->wq C (B o) Q st)(h1:∀o,I o wf->c o->(∀o st,I o st->wq C (B o) Q st)->wq C (t o) Q wf):∀o,I o wf->wq C (if c o then t o else B o) Q wf:=λo i=>by
 by_cases k:c o
 .rw[mZ k];exact h1 o i k h
 .rw[mT k];exact h _ _ i
theorem Tq{β:Type}{f:Nat->β->StateT gP Sem (ForInStep β)}{b:Nat}{c:β}{wf:gP}{Q:β->gP->Prop}(I:Nat->gP->Prop)(D:gP->Prop)(h0:I 0 wf)(end_:∀st,I b st->D st)
  (step:∀x st Q',(∀s,D s->Q' (.done c) s)->(∀s,I (x+1) s->Q' (.yield c) s)->I x st->wq C (f x c) Q' st)(go:∀st,D st->Q c st):wq C (forIn [0:b] c f) Q wf:=by
 refine rp (ot (I:=λx c' s=>c'=c/\I x s) (Q:=λc' s=>c'=c/\D s) ?_ ?_ ⟨rfl,h0⟩) ?_
 .rintro x _ st _ _ ⟨rfl,h⟩;exact step x st _ (λs d=>⟨rfl,d⟩) (λs d=>⟨rfl,d⟩) h
 .rintro _ st ⟨rfl,h⟩;rw[Nat.max_eq_right (aR b)]at h;exact⟨rfl,end_ st h⟩
 .rintro _ st ⟨rfl,h⟩;exact go st h
structure GJ(ky:aZ->Int)(kd:SortKind)(a₀:Array gO)(lo n:Nat)(st:gP):Prop where
 b:SB kd a₀ st
 p:Pd ky (arrOf st) (pendingOf st).toList 0 lo
 pos:0<n
 le:lo+n<=a₀.size
 sg:Sg ky (arrOf st) lo n
structure μ(ky:aZ->Int)(kd:SortKind)(a₀:Array gO)(x lo:Nat)(st:gP):Prop where
 b:SB kd a₀ st
 p:Pd ky (arrOf st) (pendingOf st).toList 0 lo
 le:lo<=a₀.size
 x:x<=lo∨lo=a₀.size
theorem GJ.U1(O:Ord C kd ky a₀){st:gP}{lo n i:Nat}{Q:Bool->gP->Prop}(R:GJ ky kd a₀ lo n st)(hi:i+1<(pendingOf st).size)(h:∀nA,GJ ky kd a₀ lo n nA->Q af nA):wq C (mergeAt' i) Q st:=
 Ek O R.b R.p (gq (Nat.le_add_right _ _) R.le) hi λnA h1 h2 _ h4=>h nA ⟨h1,h2,R.pos,R.le,R.sg.congr λk k1 _=>h4 k k1⟩
theorem lm2{p q n x:Nat}(h:p<=max 1 (n-x))(s:¬p<=1)(g:q+1=p):q<=max 1 (n-(x+1)):=by
 refine gq (Nat.le_pred_of_lt<|gq (Nat.le_of_eq g) ?_)<|Nat.le_max_right 1 _;rcases Nat.le_total 1 (n-x)with e|e
 .rw[Nat.max_eq_right e]at h;exact h
 .rw[Nat.max_eq_left e]at h;exact absurd h s
theorem GK(O:Ord C kd ky a₀)(D:LZ ky a₀){st:gP}{Q:Unit->gP->Prop}(hB:SB kd a₀ st)(h0:pendingOf st=#[])(h2:1<=a₀.size)
  (h:∀nA,SB kd a₀ nA->Sg ky (arrOf nA) 0 a₀.size->Q () nA):wq C sortRuns' Q st:=by
 rw[sortRuns'_eq];refine Dc ?_;dsimp only;rw[hB.size];generalize minRun' a₀.size a₀.size 0=mr;refine nq (rp (ot
  (I:=λx c nA=>∃lo,c=(aI,lo)/\μ ky kd a₀ x lo nA)
  (Q:=λc nA=>c=(aI,a₀.size)/\μ ky kd a₀ 0 a₀.size nA) ?step ?fin ⟨0,rfl,hB,by rw[h0];rfl,aR _,.inl (dg _)⟩) ?post)
 case fin=>
  rintro c nA ⟨lo,rfl,L⟩;have h1:=L.x;let h2:=L.le;obtain rfl:lo=a₀.size:=h1.elim (λh=>fJ h2<|gq (Nat.le_max_right 0 _) h) id;exact⟨rfl,L.b,L.p,L.le,.inr rfl⟩
 case step=>
  rintro x c nA _ hx ⟨lo,rfl,L⟩;refine UU (λEj=>?_) λEj=>?_
  .obtain rfl:lo=a₀.size:=fJ L.le Ej;exact mv ⟨rfl,L.b,L.p,L.le,.inr rfl⟩
  .let Rk:x<=lo:=by let:=L.x;exact("0m_{{NvvG5P+ul>iD&(&#",Ej,this)
   let b3:=L.le;refine nq<|GI O D ("1E<F3=O6(L4L*1ZF}o)C&#",Ej,rfl) ("$9Jeoa>ND02UxCN?>&#",Ej,rfl) L.b λm pz c1 c2 c3 c4 c5=>?_;let R:GJ ky kd a₀ lo m pz:=⟨c1,by rw[c2.pend];exact L.p.congr λk _ k2=>c2.arr k k2,c3,("%Ux/b,;~To4Ie}qvi9'{m'#",Ej,c4,rfl),c5⟩;clear c1 c2 c3 c4 c5 L h;revert R;revert m;refine jpS (GJ ky kd a₀ lo) (λn st R=>?_) λm R hm hB=>?_
   .refine Dc ?_;have fin:∀st,GJ ky kd a₀ lo n st->μ ky kd a₀ (x+1) (lo+n) (setPending st<|(pendingOf st).push (lo,n,0)):=λst R=>by
     refine⟨⟨R.b.perm,R.b.kind,R.b.failed⟩,?_,R.le,.inl (by have:=R.pos;exact("%%|FQnyB<Cw2ovDC&#",Rk,this))⟩;rw[Array.toList_push];exact Pd.app.mpr ⟨lo,R.p,rfl,R.pos,R.sg,rfl⟩
    split
    .refine nq (Tq (λ_ st=>GJ ky kd a₀ lo n st) (GJ ky kd a₀ lo n) R (λ_ h=>h) (λy rV Q' done next R=>?_) λrV R=>?_)
     .clear fin;refine Dc ?_;generalize e:(if(pendingOf rV).size>1 then _ else aI)=v;cases v with
      |none=>exact mv (done _ R)
      |some v=>
       have sz:(pendingOf rV).size>1:=Decidable.byContradiction λn=>by rw[mT n]at e;cases e
       exact UU (λ_=>mv<|done _ R) λ_=>nq<|R.U1 O ("]8:'QlLkc?d.'Rty%#",sz,rfl) λIg R=>mv<|next _ R
     .refine xU (xU<|mv ⟨_,rfl,fin _ ⟨⟨R.b.perm,R.b.kind,R.b.failed⟩,?_,R.pos,R.le,R.sg⟩⟩);rw[Array.toList_modify];refine Pd.mod ?_ R.p;exact λ_=>⟨rfl,rfl⟩
    .exact xU<|mv ⟨_,rfl,fin _ R⟩
   .refine Ed ?_;let h1:=R.pos;let h2:=R.le;refine nq<|Dd O (lo:=lo) ("(7<?KLK$M45hJWS5ms:ndfsGK(#",Ej,("%"),rfl) ("0T,f|I,{/kJI4U0SDQe;A=L#T)/X.1CT)#",hm,h2,("%"),rfl) R.pos R.b R.sg λsF d1 e2 d5=>?_;exact hB _ _ ⟨d1,by rw[e2.pend];exact R.p.congr λk _ k2=>e2.arr k k2,("&mA6eTh4UCauhE/|$t[UR+^iQ[XF>3)#",Ej,hm,("%"),rfl),("(7<?KLK$M45hJWS5ms:ndfsGK(#",Ej,("%"),rfl),d5⟩
 case post=>
  rintro c nA ⟨rfl,L⟩;refine nq (Tq (λx rV=>SB kd a₀ rV/\Pd ky (arrOf rV) (pendingOf rV).toList 0 a₀.size/\(pendingOf rV).size<=max 1 (a₀.size-x)) (λrV=>SB kd a₀ rV/\Pd ky (arrOf rV) (pendingOf rV).toList 0 a₀.size/\(pendingOf rV).size<=1)
   ⟨L.b,L.p,gq (gq (Nat.le_of_eq (iq _).symm) L.p.le)<|Nat.le_max_right 1 _⟩ (λrV⟨q2,q3,q4⟩=>⟨q2,q3,gq q4<|Nat.le_of_eq<|congrArg (max 1)<|iB _⟩) (λx rV Q' done next⟨f1,f2,f3⟩=>?_) λrV⟨f1,f2,f3⟩=>?_)
  .refine Dc ?_;refine UU (λsz=>mv<|done _ ⟨f1,f2,sz⟩) λsz=>?_;refine nq<|Ek O f1 f2 (dg _) ?_ λIg g1 g2 g3 _=>mv<|next _ ⟨g1,g2,lm2 f3 sz g3⟩
   split<;>split<;>omega
  .refine mv (h _ f1 ?_);cases hl:(pendingOf rV).toList with
   |nil=>rw[hl]at f2;exact absurd h2 (Nat.not_le_of_lt<|Nat.lt_succ_of_le<|Nat.le_of_eq (show 0=a₀.size from f2).symm)
   |cons p r=>
    rw[hl]at f2;let:r=[]:=by let:=congrArg iD hl;exact List.eq_nil_of_length_eq_zero<|Nat.le_zero.mp<|Nat.le_of_succ_le_succ<|gq (Nat.le_of_eq this.symm) f3
    subst this;let g3:=f2.2.2.1;let g4:=f2.2.2.2;have g4:_=_:=g4;rw[<-g4,iq];exact g3
end
end Mine.Sort
end
section
open PySem renaming wpAny_bind→aY,wpAny_pure→bg,Value→aZ,sizeLine_eq→iJ,Shared→bh,wpAny_holding→cQ,Heap→bL
open PySem.Heap renaming get?_push_of_some→bG,get?_update_ne→iF,get?_push_ne→iG,size_update→iI,get?_push_size→bE,lt_size→bQ
open PySem.Obj renaming mapSeq→gr
open Bool renaming false_eq_true→iz,false→ag,true→af
open Nat renaming ne_of_lt→fu,lt_succ_of_lt→iK,zero_le→aR,le_refl→dg
open PySem.Value renaming int→iH,type→cP
open Option renaming some→aq
open PySem PySem.W PySem.Calls PyProof.Rows
namespace Mine.Sort
def qL(h:bL)(v:aZ)(a b:Int):Prop:=∃ad t u n,v=.ref ad/\h.get? ad=aq {cls:=.type "tuple",data:=.seq #[.int a t,.int b u] n}
section
variable{prog:Program}{w:World}{A:Around}{E:aZ->bh->Prop}{s:bh}
theorem L7{a b:Int}{t u:Tok}{Q:Bool->bh->Prop}(h:Q (decide<|a<b) s):wpAny (model prog w) A (oneLt' ag (.int a t)<|.int b u) Q E s:=by rw[oneLt'_eq];simp only[iz,if_false];refine aY (show wpAny (model prog w) A (richCompare .Lt (.int a t) (.int b u)) _ E s from P.lt_int ?_);exact wpAny_truthy_bool h
theorem IU{x y:aZ}{a b c d:Int}{Q:Bool->bh->Prop}(hx:qL s.heap x a b)(hy:qL s.heap y c d)(h:Q (decide<|a<c∨(a=c/\b<d)) s):
  wpAny (model prog w) A (keyLt' (tuples' af) x y) Q E s:=by
 obtain⟨ax,t1,t2,n,rfl,hx⟩:=hx;obtain⟨ay,u1,u2,m,rfl,hy⟩:=hy;rw[kat_lt_eq];refine aY<|listItems_at hx rfl ?_;refine aY<|listItems_at hy rfl ?_;show wpAny _ _ (do
  let r<-forIn ([(iH a t1,iH c u1),(iH b t2,iH d u2)].zipIdx) _ _
  _) _ _ _
 rw[List.zipIdx_cons,List.forIn_cons];refine aY<|aY<|aY<|wpAny_eqBool_int ?_;by_cases e:a=c
 .subst e;let e1:(a==a)=af:=beq_self_eq_true a;rw[e1];simp only[Bool.not_true,iz,if_false];refine bg ?_;dsimp only;rw[List.zipIdx_cons,List.forIn_cons];refine aY<|aY<|wpAny_eqBool_int ?_;by_cases e:b=d
  .subst e;let e1:(b==b)=af:=beq_self_eq_true b;rw[e1];simp only[Bool.not_true,iz,if_false];refine bg ?_;dsimp only;rw[List.zipIdx_nil,List.forIn_nil];refine bg ?_;refine bg ?_;let:(decide<|a<a∨a=a/\b<b)=decide ((#[iH a t1,iH b t2]:Array aZ).size<(#[iH a u1,iH b u2]:Array aZ).size):=by
    rw[decide_eq_decide];simp
   rw[this]at h;exact h
  .let e1:(b==d)=ag:=beq_eq_false_iff_ne.mpr e;rw[e1];simp only[Bool.not_false,if_true];refine aY (show wpAny _ _ (oneLt' ag _ _) _ _ _ from L7 ?_);refine bg ?_;refine bg ?_;let:(decide<|a<a∨a=a/\b<d)=decide (b<d):=by rw[decide_eq_decide];simp
   rw[this]at h;exact bg h
 .let e1:(a==c)=ag:=beq_eq_false_iff_ne.mpr e;rw[e1];simp only[Bool.not_false,if_true];refine aY (show wpAny _ _ (oneLt' af _ _) _ _ _ from oneLt_int ?_);refine bg ?_;refine bg ?_;let:(decide<|a<c∨a=c/\b<d)=decide (a<c):=by
   rw[decide_eq_decide];simp[e]
  rw[this]at h;exact bg h
structure IV(h:bL)(vs:List aZ)(ky:aZ->Int):Prop where
 at_:∀v∈vs,∃a b,qL h v a b
 mono:∀v∈vs,∀u∈vs,∀a b c d,qL h v a b->qL h u c d->(ky v<ky u↔(a<c∨(a=c/\b<d)))
 nd:(vs.map ky).Nodup
theorem qL.keep{h h':bL}{v:aZ}{a b:Int}(k:∀b o,h.get? b=aq o->h'.get? b=aq o)(x:qL h v a b):qL h' v a b:=by obtain⟨ad,t,u,n,e,g⟩:=x;exact⟨ad,t,u,n,e,k _ _ g⟩
theorem qL.inj{h:bL}{v:aZ}{a b c d:Int}(x:qL h v a b)(y:qL h v c d):a=c/\b=d:=by obtain⟨ad,t,u,n,rfl,g⟩:=x;obtain⟨ad',t',u',n',e,g'⟩:=y;cases e;rw[g]at g';cases g';exact⟨rfl,rfl⟩
theorem IV.keep{h h':bL}{vs:List aZ}{ky:aZ->Int}(x:IV h vs ky)(k:∀b o,h.get? b=aq o->h'.get? b=aq o):IV h' vs ky where
 at_:=λv m=>let⟨a,b,p⟩:=x.at_ v m;⟨a,b,p.keep k⟩
 mono:=λv m u m' a b c d p q=>by obtain⟨a',b',p'⟩:=x.at_ v m;obtain⟨c',d',q'⟩:=x.at_ u m';obtain⟨rfl,rfl⟩:=p.inj<|p'.keep k;obtain⟨rfl,rfl⟩:=q.inj<|q'.keep k;exact x.mono v m u m' _ _ _ _ p' q'
 nd:=x.nd
theorem BN{vs:List aZ}{x:Keyed}(m:x∈(vs.toArray.zip vs.toArray).toList):x.1∈vs/\x.2=x.1:=by rw[Array.toList_zip]at m;obtain⟨i,h,e⟩:=List.mem_iff_getElem.mp m;simp only[List.getElem_zip]at e;subst e;exact⟨List.getElem_mem _,rfl⟩
theorem IV.ord{vs:List aZ}{ky:aZ->Int}(x:IV s.heap vs ky):Ord ⟨prog,w,A,E,s⟩ (tuples' af) ky (vs.toArray.zip vs.toArray)where
 lt:=λp q hp hq=>by let m1:=(BN hp).1;let m2:=(BN hq).1;obtain⟨a,b,g1⟩:=x.at_ _ m1;obtain⟨c,d,g2⟩:=x.at_ _ m2;refine wpAny_attempt<|IU g1 g2 ⟨rfl,?_⟩;rw[show decide (ky p.1<ky q.1)=decide (a<c∨a=c/\b<d)from by rw[decide_eq_decide];exact x.mono _ m1 _ m2 _ _ _ _ g1 g2]
theorem BO{vs:List aZ}:(vs.toArray.zip vs.toArray).toList.map (·.1)=vs/\(vs.toArray.zip vs.toArray).toList.map (·.2)=vs:=by
 rw[Array.toList_zip];constructor
 .exact List.map_fst_zip<|dg _
 .exact List.map_snd_zip<|dg _
theorem IV.dist{h:bL}{vs:List aZ}{ky:aZ->Int}(x:IV h vs ky):LZ ky (vs.toArray.zip vs.toArray):=by unfold LZ;rw[show(λp:Keyed=>ky p.1)=ky∘(·.1)from rfl,<-List.map_map,BO.1];exact x.nd
theorem IV.kind{vs:List aZ}{ky:aZ->Int}{Q:SortKind->bh->Prop}(x:IV s.heap vs ky)(IA:vs≠[])(h:Q (tuples' af) s):wpAny (model prog w) A (keyKind' vs.toArray) Q E s:=by
 let:∀l:List aZ,(∀v∈l,v∈vs)->∃fs,KatTups s.heap l fs/\fs.length=l.length/\∀f∈fs,∃i t,f=.int i t:=by
  intro l
  induction l with
  |nil=>intro _;exact⟨[],.nil,rfl,λ_ m=>by cases m⟩
  |cons v l ih=>
   intro hm;obtain⟨fs,t,e,hf⟩:=ih λu m=>hm u<|.tail _ m;obtain⟨a,b,ad,t1,t2,n,rfl,g⟩:=x.at_ v<|hm v<|.head _;refine⟨.int a t1::fs,.cons g rfl rfl rfl t,by simp[e],λf m=>?_⟩;rcases List.mem_cons.mp m with rfl|m
   .exact⟨_,_,rfl⟩
   .exact hf f m
 obtain⟨fs,t,e,hf⟩:=this vs λ_ m=>m;refine kat_kind (T:=.type "int") t (by rw[e];exact List.length_pos_iff.mpr IA) (λv m=>?_) ("") (by rw[show(cP "int"!=cP "tuple")=af from by decide];exact h);obtain⟨i,u,rfl⟩:=hf v m;exact Looks.of_pure rfl
theorem GL{vs:List aZ}{kd:SortKind}{ky:aZ->Int}{st:SortSt}(hB:SB kd (vs.toArray.zip vs.toArray) st)(hs:Sg ky (arrOf st) 0 (vs.toArray.zip vs.toArray).size):
  ((arrOf st).map (·.2)).toList.Perm vs/\((arrOf st).map (·.2)).toList.Pairwise (λx y=>ky x<=ky y):=by
 let hp:(arrOf st).toList.Perm (vs.toArray.zip vs.toArray).toList:=Array.perm_iff_toList_perm.mp hB.perm;let h1:(arrOf st).toList.map (·.2)=(arrOf st).toList.map (·.1):=List.map_congr_left λx m=>(BN<|hp.mem_iff.mp m).2;rw[Array.toList_map];refine⟨?_,?_⟩
 .let:=hp.map (·.2);rw[BO.2]at this;exact this
 .rw[h1];let:=(Sg.list (ky:=ky) (xs:=arrOf st) (lo:=0) (n:=(vs.toArray.zip vs.toArray).size) (by rw[hB.size];exact("5[o^hTr$#"))).mp hs;rw[List.drop_zero,List.take_of_length_le (by rw[Array.length_toList,hB.size];exact dg _)]at this;rw[List.pairwise_map];exact this
theorem Df{a:Addr}{vs:List aZ}{ky:aZ->Int}{n:Nat}{P:Fin->bh->Prop}(ho:s.heap.get? a=aq (seqObj "list" vs.toArray n))(hn:vs.length<=1000000)
  (x:IV s.heap vs ky)
  (h:∀out:Array aZ,out.toList.Perm vs->out.toList.Pairwise (λx y=>ky x<=ky y)->P (.done (.ret .none)) {s with heap:=sortedHeap s.heap a vs out}):
  wpAny (model prog w) A (Builtin.«list.sort» ⟨[.ref a],[]⟩) P E s:=by
 rw[list_sort_plain];let ha:a<s.heap.objs.size:=bQ ho;refine aY<|listItems_at ho rfl ?_;refine aY (listUpdate_at ho rfl ?_ (by rw[List.size_toArray,iJ];exact("dt#;j_FYQx176ie~$#",hn))<|aR _);obtain⟨e1,Nv⟩:∃e1,(s.heap.update a<|gr λ_=>#[]).get? a=aq (seqObj "list" #[] e1):=⟨_,get?_update_seq ho λ_=>#[]⟩;refine aY<|seqEpoch_at Nv rfl ?_;refine aY (wpAny_newTuple ?_ (by show vs.length<=_;rw[iJ];exact("dt#;j_FYQx176ie~$#",hn)));refine aY<|wpAny_newList ?_<|aR _;refine cQ ?_;have YJ:(((s.heap.update a<|gr λ_=>#[]).push (seqObj "tuple" vs.toArray 0)).push (seqObj "list" #[] 0)).get? a=aq (seqObj "list" #[] e1):=by rw[iG _ _ _ (by rw[size_push',iI];exact fu<|iK ha),iG _ _ _ (by rw[iI];exact fu ha)];exact Nv
 have keep:∀b o,b≠a->s.heap.get? b=aq o->(((s.heap.update a<|gr λ_=>#[]).push (seqObj "tuple" vs.toArray 0)).push (seqObj "list" #[] 0)).get? b=aq o:=λb o nb q=>
  bG _ (bG _ (by rw[iF _ _ _ _ nb];exact q))
 let na:∀v a' b',qL s.heap v a' b'->v≠.ref a:=λv a' b'⟨ad,t,u,m,e,g⟩ q=>by subst e;cases q;rw[ho]at g;let:=congrArg (λo=>match o with|some o=>(match o.cls with|.type t=>t=="list"|_=>ag)|none=>ag) g;revert this;show af=ag->False;decide
 have x6:IV (((s.heap.update a<|gr λ_=>#[]).push (seqObj "tuple" vs.toArray 0)).push (seqObj "list" #[] 0)) vs ky:=by
  have kp:∀v a' b',qL s.heap v a' b'->qL (((s.heap.update a<|gr λ_=>#[]).push (seqObj "tuple" vs.toArray 0)).push (seqObj "list" #[] 0)) v a' b':=λv a' b' p=>by have nv:=na v a' b' p;obtain⟨ad,t,u,m,rfl,g⟩:=p;exact⟨ad,t,u,m,rfl,keep ad _ (λe=>nv (by rw[e])) g⟩
  refine⟨λv m=>let⟨a',b',p⟩:=x.at_ v m;⟨a',b',kp _ _ _ p⟩,λv m u m' a' b' c d p q=>?_,x.nd⟩;obtain⟨a2,b2,p2⟩:=x.at_ v m;obtain⟨c2,d2,q2⟩:=x.at_ u m';obtain⟨rfl,rfl⟩:=p.inj<|kp _ _ _ p2;obtain⟨rfl,rfl⟩:=q.inj<|kp _ _ _ q2;exact x.mono v m u m' _ _ _ _ p2 q2
 show wpAny (model prog w) A _ P E {s with heap:=((s.heap.update a<|gr λ_=>#[]).push (seqObj "tuple" vs.toArray 0)).push (seqObj "list" #[] 0)};dsimp only;have hsz:vs.toArray.size=vs.length:=by simp
 have osz:∀out:Array aZ,out.toList.Perm vs->out.size<=sizeLine+1:=λout hp=>by let:=hp.length_eq;rw[Array.length_toList]at this;rw[iJ];exact("$']1I%D?XtektI&B)h2{m5%#",hn,this)
 by_cases h2:vs.toArray.size<2
 .rw[mZ h2,mZ h2];refine aY<|bg ?_;rw[StateT.run_pure];refine aY<|bg ?_;dsimp only;let U2:((arrOf<|SortSt.mk' general' (vs.toArray.zip vs.toArray) #[] 7 none).map (·.2)).toList=vs:=by
   rw[Array.toList_map];exact BO.2
  refine aY<|seqEpoch_at YJ rfl ?_;refine aY (listUpdate_at YJ rfl ?_ (aR _)<|osz _ (by rw[U2]));simp only[bne_self_eq_false,iz,if_false];refine bg (h _ (by rw[U2]) ?_);rw[U2]
  match vs,hsz,h2 with
  |[],_,_=>exact .nil
  |[_],_,_=>exact List.pairwise_singleton _ _
  |_::_::_,_,h2=>simp only[List.size_toArray,List.length_cons]at h2;exact(LA.u90 0x14d0884848036221 ("$") h2).elim
 .rw[mT h2,mT h2];let IA:vs≠[]:=by rintro rfl;simp at h2
  refine aY<|IV.kind (s:={s with heap:=_}) x6 IA ?_;have hzs:(vs.toArray.zip vs.toArray).size=vs.length:=by simp
  refine aY (wpAny_mono (GK (C:=⟨prog,w,A,E,_⟩) (a₀:=vs.toArray.zip vs.toArray) (st:=SortSt.mk' (tuples' af) (vs.toArray.zip vs.toArray) #[] 7 none)
   (Q:=λ_ nA=>((arrOf nA).map (·.2)).toList.Perm vs/\((arrOf nA).map (·.2)).toList.Pairwise (λx y=>ky x<=ky y)/\failedOf nA=none)
   (IV.ord (s:={s with heap:=_}) x6) x6.dist ⟨Array.Perm.refl _,rfl,rfl⟩ rfl (by rw[hzs];rw[hsz]at h2;exact("zl)BlE&ub$#",h2)) λnA b1 b2=>?_) ?_ λ_ _ e=>e)
  .let c1:=(GL b1 b2).1;let c2:=(GL b1 b2).2;exact⟨c1,c2,b1.failed⟩
  rintro⟨⟨⟩,nA⟩ s' ⟨rfl,c1,c2,hf⟩;refine aY<|seqEpoch_at YJ rfl ?_;refine aY<|listUpdate_at YJ rfl ?_ (aR _)<|osz _ c1;rw[hf];simp only[bne_self_eq_false,iz,if_false];exact bg<|h _ c1 c2
theorem IW{l:Addr}{vs:List aZ}{ky:aZ->Int}{Q:aZ->bh->Prop}(hl:s.heap.IsList l vs.toArray)(hn:vs.length<=1000000)(x:IV s.heap vs ky)
  (h:∀out:Array aZ,out.toList.Perm vs->out.toList.Pairwise (λx y=>ky x<=ky y)->Q (.ref (s.heap.objs.size+1)) {s with heap:=sortedAll s.heap vs out}):
  wpAny (model prog w) A (call (.builtin "sorted") [.ref l]) Q E s:=by
 refine Calls.call_function_entry kind_sorted plain_sorted entry_sorted (args_sorted1 _) ?_;unfold Builtin.«sorted»;refine aY (m:=checkCount "sorted" 1 1 _)<|bg ?_;refine aY (collect_list hl ?_ (by rw[iJ];exact("dt#;j_FYQx176ie~$#",hn)));refine aY (wpAny_newList ?_ (by rw[iJ];exact("dt#;j_FYQx176ie~$#",hn)));have hsz:((s.heap.push<|seqObj "list" #[] 0).update s.heap.objs.size (gr (·++vs.toArray))).objs.size=s.heap.objs.size+1:=by rw[iI,size_push']
 let Kx:(((s.heap.push<|seqObj "list" #[] 0).update s.heap.objs.size (gr (·++vs.toArray))).push (seqObj "list" vs.toArray 0)).get? (s.heap.objs.size+1)=aq (seqObj "list" vs.toArray 0):=by rw[<-hsz];exact bE _ rfl
 let keep:∀b o,s.heap.get? b=aq o->(((s.heap.push<|seqObj "list" #[] 0).update s.heap.objs.size (gr (·++vs.toArray))).push (seqObj "list" vs.toArray 0)).get? b=aq o:=λb o q=>by let rz:b<s.heap.objs.size:=bQ q;rw[iG _ _ _ (by rw[hsz];exact fu<|iK rz),iF _ _ _ _<|fu rz,iG _ _ _<|fu rz];exact q
 show wpAny _ _ _ _ _ {s with heap:=((s.heap.push<|seqObj "list" #[] 0).update s.heap.objs.size (gr (·++vs.toArray))).push (seqObj "list" vs.toArray 0)};rw[hsz];refine aY<|cQ<|wpAny_call_entry slot_list_sort ⟨_,Kx,rfl⟩ entry_list_sort (Df (s:={s with heap:=_}) Kx hn (x.keep keep) λout a1 a2=>⟨_,rfl,?_⟩)<|args_list_sort _;exact bg ⟨_,rfl,h out a1 a2⟩
theorem BP{h:bL}{vs:List aZ}{out:Array aZ}:(∀b o,h.get? b=aq o->(sortedAll h vs out).get? b=aq o)/\∃e,(sortedAll h vs out).get? (h.objs.size+1)=aq (seqObj "list" out e):=by
 unfold sortedAll sortedHeap;let hsz:((h.push<|seqObj "list" #[] 0).update h.objs.size (gr (·++vs.toArray))).objs.size=h.objs.size+1:=by rw[iI,size_push']
 let Kx:(((h.push<|seqObj "list" #[] 0).update h.objs.size (gr (·++vs.toArray))).push (seqObj "list" vs.toArray 0)).get? (h.objs.size+1)=aq (seqObj "list" vs.toArray 0):=by rw[<-hsz];exact bE _ rfl
 constructor
 .intro b o q;let rz:b<h.objs.size:=bQ q;let nb:b≠h.objs.size+1:=fu<|iK rz;rw[iF _ _ _ _ nb];refine bG _<|bG _ ?_;rw[iF _ _ _ _ nb];refine bG _ ?_;rw[iF _ _ _ _ (fu rz)];exact bG _ q
 .obtain⟨e1,Nv⟩:∃e1,((((h.push<|seqObj "list" #[] 0).update h.objs.size (gr (·++vs.toArray))).push (seqObj "list" vs.toArray 0)).update (h.objs.size+1) (gr λ_=>#[])).get? (h.objs.size+1)=aq (seqObj "list" #[] e1):=⟨_,get?_update_seq Kx λ_=>#[]⟩;exact⟨_,get?_update_seq (bG _<|bG _ Nv) λ_=>out⟩
end
end Mine.Sort
end
section
open Mine.lW renaming intro→iL
open Nat renaming le_of_ble_eq_true→ak,le_trans→gq,le_refl→dg,zero_le→aR,lt_of_lt_of_le→hH,pow_succ→jg,min_eq_left→iE,blt→aJ,lt_succ_self→dG,beq→aF,le_add_right→jz,zero_add→iq,min_eq_right→jA,sub_self→iB,succ_pos→aQ,not_lt→fi,not_le→jG,eq_zero_or_pos→jH,add_sub_cancel_left→jJ,le_of_lt_succ→iC,eq_of_beq_eq_true→bJ,one_pos→jR,pow_le_pow_right→jS,two_pow_pos→jT,mod_lt→aO,add_comm→kj,lt_or_ge→aU,le_antisymm→fJ,mul_le_mul_right→kB,add_assoc→iy,add_sub_cancel→kH,le_of_lt→aP,lt_irrefl→bW
open Mine.mh renaming intro→iM
open Option renaming some→aq,none→aI,isSome_iff_exists→bN,map_eq_some_iff→ah,map_some→fH
open List renaming length_map→cF,mem_singleton→aH,not_mem_nil→iN,getD_eq_getElem?_getD→bq,length_append→cz,getElem?_eq_getElem→bU,replicate→iT,length_range→iU,range→gk,getElem?_eq_some_iff→bZ,mem_append→aE,getElem?_map→cj,mem_of_mem_drop→iX,mem_cons→aA,mem_of_mem_take→iZ,map_append→i6,getElem_mem→i7,mem_map→ef,mem_of_getElem?→bR,getElem?_eq_none→i8,nodup_iff_pairwise_ne→ja,length_take→eW,getElem?_range→jb,length_pos_iff→jc,length_drop→jd,map→je,pairwise_map→jf,map_congr_left→dU,map_map→cO,take_of_length_le→g6,map_cons→bS,length_cons→bO,mem_or_eq_of_mem_set→jo,length→iD,length_filterMap_le→jq,mem_map_of_mem→dP,all_eq_true→bT,take_length→js,drop_of_length_le→io,append_nil→ju,length_replicate→jv,length_singleton→jw,flatMap_cons→jx,mem_range→jy,length_set→jF,getElem?_take→g9,ext_getElem?→jK,getElem?_zipWith→jM,take→jO,flatMap_def→jP,replicate_succ→dO,getElem?_append_right→jZ,getElem?_append_left→j3,take_add_one→j7,getElem?_set→j8,map_drop→kc,eq_of_mem_replicate→kf,drop→kh,sum_append→kq,range_succ→kr,set_append_right→ku,mem_iff_getElem→kA,take_zero→kC,getElem?_drop→gS,lookup_cons→cf,map_reverse→kK,nodup_cons→fE,length_nil→cZ,take_take→kM,any_cons→dH
open Mine.lZ renaming nil→iO
open Bool renaming false→ag,true→af,false_ne_true→cA,and_eq_true→cN,false_or→jQ,or_eq_true→jV,true_and→kb,eq_iff_iff→dM,and_true→kG,eq_false_iff→eK,false_and→kN
open Mine.mC renaming intro→iP
open Mine.mO renaming intro→iQ
open Mine.V renaming int→iR,ref→jX
open Eq renaming symm→bF
open PySem renaming Addr→bp,NameKind→bu,intBits_le_64→jD,Value→aZ
open Mine.nG renaming intro→iS
open Mine.po renaming cons→iV,nil→jk
open Mine.oa renaming cons→iW,nil→ji
open Mine.SS renaming qy→iY,fr→j4,IO→j5,ra→j6,wh→kQ,fl→kR,r0→kS,aa→kW,av→kY,fe→lf,ac→lh
open Prod.mk renaming inj→eL
open Int renaming toNat_natCast→i9,emod_lt_of_pos→aG,emod_nonneg→aL,natCast_mul→jE,toNat→jI,natCast_add→jU,le_trans→gR,natCast_emod→ki,le_of_lt→aV,le_of_eq→ir
open Mine.SE renaming bo→jh,sl→jC,ls→jW,cn→jY,ie→kg,lc→kI,nt→kL,tp→kP,cm→kU,bn→kX,b2→kZ,ng→lg
open Mine.LA renaming mq→jl,mp→jN,u180→j9,u270→kJ,u90→kO
open UInt8 renaming toNat_lt→jm
open PySem.Builtin renaming bitNot→jn,bitAnd→jL,bitOr→kF
open Mine.AO renaming list→jr
open Mine.pv renaming intro→jt
open Decidable renaming byContradiction→jB
open Mine renaming hide→gu,aCall→kT
open Option.some renaming inj→aB
open False renaming elim→a9
open PySem PySem.W PySem.Calls PyProof.Rows
namespace Mine
def refs(ps:List<|bp×Int×Int):List V:=ps.map λp=>.ref p.1
@[irreducible]noncomputable def Dg(ys:List V)(H:AH)(Q:V->AH->Prop):Prop:=∃ps:List (bp×Int×Int),ys=refs ps/\(∀p∈ps,H p.1=aq (.tup [.int p.2.1,.int p.2.2]))/\(∀p∈ps,0<=p.2.2/\p.2.2<1000000)/\(ps.map (·.2)).Nodup/\ps.length<=1000000/\
 ∀qs:List (bp×Int×Int),qs.Perm ps->qs.Pairwise (λp q=>p.2.1<q.2.1∨(p.2.1=q.2.1/\p.2.2<=q.2.2))->∀a,H a=aI->Q (.ref a) (upd H a<|.list (refs qs))
theorem Dg.intro{ys:List V}{H:AH}{Q:V->AH->Prop}(ps:List<|bp×Int×Int)(h:ys=refs ps)(h1:∀p∈ps,H p.1=aq (.tup [.int p.2.1,.int p.2.2]))(h2:∀p∈ps,0<=p.2.2/\p.2.2<1000000)(h3:(ps.map (·.2)).Nodup)(h4:ps.length<=1000000)
  (h5:∀qs:List (bp×Int×Int),qs.Perm ps->qs.Pairwise (λp q=>p.2.1<q.2.1∨(p.2.1=q.2.1/\p.2.2<=q.2.2))->∀a,H a=aI->Q (.ref a) (upd H a<|.list (refs qs))):Dg ys H Q:=by unfold Dg;exact⟨ps,h,h1,h2,h3,h4,h5⟩
theorem Dg.elim{ys:List V}{H:AH}{Q:V->AH->Prop}(h:Dg ys H Q):∃ps:List (bp×Int×Int),ys=refs ps/\(∀p∈ps,H p.1=aq (.tup [.int p.2.1,.int p.2.2]))/\(∀p∈ps,0<=p.2.2/\p.2.2<1000000)/\(ps.map (·.2)).Nodup/\ps.length<=1000000/\
 ∀qs:List (bp×Int×Int),qs.Perm ps->qs.Pairwise (λp q=>p.2.1<q.2.1∨(p.2.1=q.2.1/\p.2.2<=q.2.2))->∀a,H a=aI->Q (.ref a) (upd H a<|.list (refs qs)):=by unfold Dg at h;exact h
def keyOf(ps:List<|bp×Int×Int)(v:aZ):Int:=match v with
 |.ref a=>(match ps.lookup a with
  |some p=>p.1*1000000+p.2
  |none=>0)
 |_=>0
theorem KR{α β:Type}[BEq α][LawfulBEq α]{a:α}{b:β}:∀{l:List (α×β)},l.lookup a=aq b->(a,b)∈l
 |(c,d)::l,h=>by
  rw[cf]at h;cases e:a==c with
  |true=>rw[e]at h;obtain rfl:=qz h;rw[beq_iff_eq.mp e];exact .head _
  |false=>have h:=e▸h;exact .tail _ (KR h)
theorem GM{α β:Type}{f:α->β}{l m:List β}(h:m.Perm l):∀ps:List α,m=ps.map f->∃qs:List α,qs.Perm ps/\l=qs.map f:=by
 induction h with
 |nil=>intro ps e;exact⟨ps,.refl _,e⟩
 |cons x _ ih=>
  intro ps e
  match ps,e with
  |p::ps,e=>
   simp only[bS,List.cons.injEq]at e;obtain⟨qs,h1,h2⟩:=ih ps e.2;exact⟨p::qs,h1.cons p,by rw[e.1];rw[h2];rfl⟩
 |swap x y l=>
  intro ps e
  match ps,e with
  |p::q::ps,e=>
   simp only[bS,List.cons.injEq]at e;exact⟨q::p::ps,.swap _ _ _,by rw[e.1];rw[e.2.1];rw[e.2.2];rfl⟩
 |trans _ _ ih1 ih2=>
  intro ps e;obtain⟨qs,h1,h2⟩:=ih1 ps e;obtain⟨rs,h3,h4⟩:=ih2 qs h2;exact⟨rs,h3.trans h1,h4⟩
theorem oB.refs:∀{vs:List aZ}{ps:List (bp×Int×Int)},oB vs (refs ps)->vs=ps.map λp=>Value.ref p.1
 |_,[],h=>by cases h;rfl
 |_,p::ps,h=>by
  cases h with
  |cons hv h=>rw[hv.nF];rw[oB.refs h];rfl
theorem oB.O5:∀(ps:List<|bp×Int×Int),oB (ps.map λp=>Value.ref p.1) (Mine.refs ps)
 |[]=>.nil
 |p::ps=>.cons (.ref _) (oB.O5 ps)
theorem Xl:bootBuiltins (mV 83)=aq (.builtin "sorted"):=boot_sorted
section
variable{n:Nat}{lJ:Env}{lK:Loc}{H:AH}{E:AH->Prop}{Q:V->AH->Prop}
theorem kl{a b c d:Int}(h:0<=b)(k:d<1000000)(le:a*1000000+b<=c*1000000+d):a<=c:=Int.not_lt.mp λg=>by have g:=Int.mul_le_mul_of_nonneg_right (show c+1<=a from g) (show(0:Int)<=1000000 from by decide);rw[Int.add_mul,Int.one_mul]at g;exact Int.lt_irrefl _<|Int.lt_of_le_of_lt (gR (gR g<|Int.le_add_of_nonneg_right h) le)<|Int.add_lt_add_left k _
theorem U3{a:bp}{ys:List V}{vs:List aZ}(ho:H a=aq (.list ys))(h:Dg ys H Q)(hs:oB vs [.ref a]):Tr n lJ (PySem.call (.builtin "sorted") vs) lK H (VQ lK Q) E:=by
 obtain⟨v,rfl,hv⟩:=hs.one;obtain rfl:=hv.nF;refine gu λP9 mG=>?_;obtain⟨ps,rfl,h1,h2,h3,h4,h5⟩:=h.elim;refine mG ?_;refine Tr.leaf λS X A s ok st [oS:oz s]=>?_;obtain⟨us,k,e1,r,_⟩:=st.obj ho;have eu:=r.refs;let lk:∀p∈ps,ps.lookup p.1=aq p.2:=λp m=>by
  let:∃q,ps.lookup p.1=aq q:=by
   cases hq:ps.lookup p.1 with
   |some q=>exact⟨q,rfl⟩
   |none=>
    rw[List.lookup_eq_none_iff]at hq;let:=hq p m;simp at this
  obtain⟨q,e⟩:=this;let mq:=KR e;let:=(h1 (p.1,q) mq).symm.trans (h1 p m);injection this with t
  injection t with t
  injection t with t1 t
  injection t with t2
  injection t1 with t1
  injection t2 with t2
  rw[e];exact congrArg aq<|Prod.ext t1 t2
 have ko:∀p∈ps,keyOf ps (.ref p.1)=p.2.1*1000000+p.2.2:=λp m=>by unfold keyOf;dsimp only;exact bF (lk p m)▸rfl
 have pa:∀p∈ps,Sort.qL s.heap (.ref p.1) p.2.1 p.2.2:=λp m=>by obtain⟨ws,n',g1,g2,_⟩:=st.obj<|h1 p m;obtain⟨w1,w2,e,c1,c2⟩:=g2.two;obtain⟨t1,rfl⟩:=c1.int_inv;obtain⟨t2,rfl⟩:=c2.int_inv;let:ws=#[.int p.2.1 t1,.int p.2.2 t2]:=Array.toList_inj.mp e;subst this;exact⟨_,_,_,_,rfl,g1⟩
 let nda:(ps.map λp=>keyOf ps<|.ref p.1).Nodup:=by
  let e:(ps.map λp=>keyOf ps<|.ref p.1)=(ps.map (·.2)).map λq=>q.1*1000000+q.2:=by rw[cO];exact dU λp m=>ko p m
  rw[e,ja,jf];rw[ja]at h3;refine h3.imp_of_mem λ{p q} hp hq ne e=>ne ?_;obtain⟨p',m,rfl⟩:=ef.mp hp;obtain⟨q',m',rfl⟩:=ef.mp hq;let b1:=h2 p' m;let b2:=h2 q' m';have f:p'.2.1=q'.2.1:=Int.le_antisymm (kl b1.1 b2.2<|ir e)<|kl b2.1 b1.2<|ir<|bF e;exact Prod.ext f<|Int.add_left_cancel<|Eq.trans e<|congrArg (λz=>z*1000000+q'.2.2) f.symm
 let P:Sort.IV s.heap us.toList (keyOf ps):={
  at_:=λv m=>by have m:=eu▸m;obtain⟨p,mp,rfl⟩:=ef.mp m;exact⟨_,_,pa p mp⟩
  mono:=λv m u m' a b c d x y=>by
   rw[eu]at m m';obtain⟨p,mp,rfl⟩:=ef.mp m;obtain⟨q,mq,rfl⟩:=ef.mp m';obtain⟨rfl,rfl⟩:=(pa p mp).inj x;obtain⟨rfl,rfl⟩:=(pa q mq).inj y;rw[ko p mp];rw[ko q mq];let b1:=h2 p mp;let b2:=h2 q mq;refine⟨λg=>?_,λg=>?_⟩
   .rcases Int.lt_or_eq_of_le (kl b1.1 b2.2<|aV g)with e|e
    .exact .inl e
    .exact .inr ⟨e,Int.lt_of_add_lt_add_left<|e▸g⟩
   .rcases g with g|g
    .exact Int.not_le.mp λk=>Int.not_le.mpr g (kl b2.1 b1.2 k)
    .exact g.1▸Int.add_lt_add_left g.2 _
  nd:=by rw[eu,cO];exact nda}
 let el:s.heap.IsList a us.toList.toArray:=wb e1;refine Sort.IW el (by rw[eu,cF];exact h4) P λout p1 p2=>?_;let p1:=eu▸p1;obtain⟨qs,q1,q2⟩:=GM p1.symm ps rfl;obtain⟨k1,e,k2⟩:=Sort.BP (h:=s.heap) (vs:=us.toList) (out:=out);have fr:s.heap.get? (s.heap.objs.size+1)=aI:=by
  cases q:s.heap.get? (s.heap.objs.size+1)with
  |none=>rfl
  |some o=>exact absurd (Heap.lt_size q) (show¬(s.heap.objs.size+1<s.heap.objs.size) by exact("&>xb)Z8K$#"))
 let hq:qs.Pairwise (λp q=>p.2.1<q.2.1∨(p.2.1=q.2.1/\p.2.2<=q.2.2)):=by
  rw[q2,jf]at p2;refine p2.imp_of_mem λ{p q} m m' le=>?_;have mp:=q1.mem_iff.mp m;have mq:=q1.mem_iff.mp m';rw[ko p mp,ko q mq]at le;have b1:=h2 p mp;have b2:=h2 q mq;rcases Int.lt_or_eq_of_le (kl b1.1 b2.2 le)with e|e
  .exact .inl e
  .exact .inr ⟨e,Int.le_of_add_le_add_left<|e▸le⟩
 refine⟨lK,_,st.made fr k1 (ao:=.list (refs qs)) ⟨out,e,k2,?_,?_⟩,rfl,_,.ref _,h5 qs q1 hq _<|st.qJ fr⟩
 .rw[q2];exact oB.O5 qs
 .let hh:=q1.length_eq;show(refs qs).length<=_;unfold refs;rw[cF,mA];exact("'2;?6LkY-]PofWET58t}%#",h4,hh)
end
section
variable{X:Cx}
def soJ(Q:V->AH->Prop)(H:AH)(o:AO):Prop:=match o with
 |.list ys=>Dg ys H Q
 |_=>False
def soI(Q:V->AH->Prop)(H:AH)(x:V):Prop:=match x with
 |.ref a=>lW H a (soJ Q H)
 |_=>False
def soK(Q:V->AH->Prop)(xs:List V)(H:AH):Prop:=wg xs<|soI Q H
def SE.so(i:Nat)(es:oa X)(pn p:Pos):SE X:=.plain (.Call (.Name (mV (X.nw.getD i (0,.free)).1) pn) es.qx [] p)
 (λlK H E Q=>FZ 83 X.nw[i]? (es.ev lK H E<|soK Q))
 (λlJ lK H E Q c o h=>by
  obtain⟨hk,h⟩:=FZ.elim h
  .have ew:(X.nw.getD i (0,.free)).1=83:=by refine bF bq▸?_;rw[hk];rfl
   rw[qP];rw[ew];refine AX c o hk ("") Xl (oQ (.inl ⟨_,rfl⟩) (es.ok lJ lK H E _ c o h) λxs vs H2 qG q=>?_);obtain⟨x,rfl,q⟩:=wg.elim q;cases x<;>try exact a9 q
   obtain⟨ob,ho,q⟩:=q;cases ob<;>try exact a9 q
   exact U3 ho q qG) λ_ _=>rfl
def SE.sc(e:SE X)(hi:Int)(pc ps p:Pos):SE X:=.plain (.Subscript e.ex (.Slice aI (aq<|.Constant (.int hi) 0 pc) aI ps) p)
 (λlK H E Q=>e.ev lK H E λx H=>x=.ref G.Ra/\mC H (.list (mK (G.ns.map iR) aI<|aq hi)) Q)
 (λlJ lK H E Q c o h=>by
  rw[arm_eval_Subscript];refine Tr.nK (e.ok lJ lK H E _ c o h) λv x H' hv jj=>?_;obtain⟨e1,q⟩:=jj;subst e1;obtain rfl:=hv.nF;rw[arm_eval_Slice];refine Tr.yM (Tr.assoc<|Tr.nK (xO (o:=aI) c o (Q:=λy H2=>y=.none/\H2=H') ⟨rfl,rfl⟩) λl yl H2 hl⟨e2,e3⟩=>Tr.assoc<|Tr.yM<|Tr.nK (xO (o:=aq<|SE.ci (X:=X) hi pc) c o (Q:=λy H3=>y=.int hi/\H3=H') (by subst e3;exact⟨rfl,rfl⟩)) λu yu H3 hu jj=>?_);obtain⟨e4,e5⟩:=jj;subst e2 e3 e4 e5;obtain rfl:=hl.none_inv;obtain⟨tk,rfl⟩:=hu.int_inv;refine Tr.assoc (Tr.bind<|Tr.holding<|Tr.pure ?_);refine Tr.gf λgf=>?_;obtain⟨vs,nn,i1,i2,i3⟩:=gf.Zc;have Rf:∀{S X'}{s:Shared},St S X' lJ lK H3 s.heap->IsL s.heap G.Ra vs nn:=λst=>st.r.b.base _ _ i1;refine vp (T:="list") (o:=.ref G.Ra) (λS X s st=>⟨_,Rf st,rfl⟩) slot_list_getitem.lookup λS X' A s a' ok st hs [oS:oz s]=>?_;have ll:(G.ns.map iR).length<=sizeLine:=by rw[cF,mA];exact("CX6i4-cE#{:0.[$#",i3)
  refine wpAny_getItem_list_slice (Rf st).isList hs .none (.int _ _) .none ("") ⟨lK,upd H3 _<|.list (mK (G.ns.map iR) aI<|aq hi),?_,rfl,.ref _,.ref _,q.elim _<|st.qJ<|mL _⟩ (by rw[<-Array.length_toList,i2.len];exact ll);have rr:=i2.slc aI (aq hi);rw[slicePick_plain];refine st.alloc ⟨_,0,IsL.new _ _,?_,gq (oq ..) ll⟩;have:=i2.len;unfold mK at rr⊢;simpa[Array.length_toList]using rr) λ_ _=>rfl
def KS(C:bp)(k:Nat)(f:bp):Prop:=∃p lS,plainGet G.K C (mV k)=af/\hasDictIn G.K C=af/\findIn G.K (.ref C) (mV k)=aq (aq<|.ref p)/\specialIn G.K (.ref p) "__get__"=aq (aq<|.builtin "property.__get__")/\
 takesIn G.K (.ref p)=aq af/\recIn G.K p "property"=aq (.ref f::lS)
@[irreducible]noncomputable def Dh(C:bp)(k:Nat)(a:bp)(H:AH)(Q:V->AH->Prop):Prop:=∃f,KS C k f/\AV (.ref f) [.ref a] H Q
theorem Dh.intro{C:bp}{k:Nat}{a:bp}{H:AH}{Q:V->AH->Prop}{f:bp}(h:KS C k f)(c:AV (.ref f) [.ref a] H Q):Dh C k a H Q:=by unfold Dh;exact⟨f,h,c⟩
theorem Dh.elim{C:bp}{k:Nat}{a:bp}{H:AH}{Q:V->AH->Prop}(h:Dh C k a H Q):∃f,KS C k f/\AV (.ref f) [.ref a] H Q:=by unfold Dh at h;exact h
theorem U4{n:Nat}{lJ:Env}{lK:Loc}{H:AH}{E:AH->Prop}{Q:V->AH->Prop}{a C d:bp}{k:Nat}{es:List (Nat×V)}{expr:Bool}(hn:0<n)(ho:H a=aq (.inst C d))(Bp:H d=aq (.at es))(h:Dh C k a H Q):
  Tr n lJ (getAttr (.ref a) (mV k) expr) lK H (VQ lK Q) E:=by
 refine gu λP9 mG=>?_;obtain⟨f,⟨p,lS,h1,h2,h3,h4,h5,h6⟩,hc⟩:=h.elim;refine mG ?_;refine Tr.leaf λS X A s ok st [oS:oz s]=>?_;obtain⟨ds,m,e,r,_⟩:=st.obj Bp;let KX:=st.r.b.g.KX.keeps st.r.b.base;let I:InstAt s.heap a (instObj C d) C (aq<|dictOf ds m):=⟨st.obj ho,rfl,rfl,e⟩;let o1:=ok.1.1;let q2:=ok.1.2.1;let og:=ok.1.2.2.1;let q1:=ok.1.2.2.2;let o2:=ok.2;let q3:=(o2 hn).1;let q4:=(o2 hn).2;obtain⟨oL,Kx,r⟩:=st.N3 q4;refine get_bind KX I (plainGet_of h1).1 (findObj_data (by obtain⟨cd,hc,_⟩:=any_some h2;rw[hc];rfl) h3 h4 h5) (plainGet_of h1).2 (wpAny_call<|prop_get (s:={s with toks:=s.toks+1}) KX h6 ?_);let D6:oz {s with toks:=s.toks+1}:=⟨oS.sm⟩;let call:=hc ((lJ,oL)::S) _ A.in1 {s with toks:=s.toks+1} [.ref a] ⟨by show A.units+1+100*0+320<=cLine;exact("6P?#QQvVKR>no)LO20_S:2TbgF0)>^]|&#",hn,o1),q1,by show A.depth+10*0+6<=_;exact("'TrkJPSIYEu>;/6]s<NeC|pv&#",hn,q2),q3,og⟩ r<|.cons (.ref a) .nil;refine codeAny_mono call λres s' z=>?_;rcases res with e|(v|_|_|_)
 .obtain⟨_,ae,H',B,a0,_,_,_,_,h5⟩:=z;exact h5.elim
 .exact z.elim
 .exact z.elim
 .exact z.elim
 .obtain⟨_,x,H',z1,z2,z3⟩:=z;exact handed_on z1.handed ⟨lK,H',st.N4 Kx q4 z2,rfl,x,z1,z3⟩
def prI(n:Nat)(k:Nat)(Q:V->AH->Prop)(H:AH)(C a:bp)(o:AO):Prop:=match o with
 |.at _=>mh (0<n) (Dh C k a H Q)
 |_=>False
def prJ(n:Nat)(k:Nat)(Q:V->AH->Prop)(H:AH)(a:bp)(o:AO):Prop:=match o with
 |.inst C d=>lW H d (prI n k Q H C a)
 |_=>False
def prK(n:Nat)(k:Nat)(Q:V->AH->Prop)(x:V)(H:AH):Prop:=match x with
 |.ref a=>lW H a (prJ n k Q H a)
 |_=>False
def SE.pr(e:SE X)(k:Nat)(p:Pos)(hb:(!aF (kE e.ex) 2)=af):SE X:=.plain (.Attribute e.ex (mV k) p)
 (λlK H E Q=>e.ev lK H E<|prK X.n k Q)
 (λlJ lK H E Q c o h=>by
  rw[arm_eval_Attribute,Ot hb];refine Tr.nK (e.ok lJ lK H E _ c o h) λv x H' hv q=>Tr.bind (Tr.standAt ?_);cases x<;>try exact a9 q
  .rename_i a;obtain rfl:=hv.nF;obtain⟨ob,ho,q⟩:=q;cases ob<;>try exact a9 q
   .rename_i C d;obtain⟨UA,Bp,q⟩:=q;cases UA<;>try exact a9 q
    .obtain⟨hn,q⟩:=mh.elim q;exact Tr.nK (Tr.holding<|U4 hn ho Bp q) λr y IB hr q=>Tr.bind<|Tr.Ou<|Tr.pure ⟨rfl,y,hr,q⟩) λ_ _=>rfl
end
open Mine renaming refs→lp
def Fn:List Type->Type->Type
 |[],R=>R
 |a::T,R=>a->Fn T R
def IX:(T:List Type)->{A B:Type}->Fn T A->Fn T B->(A->B->Prop)->Prop
 |[],_,_,f,g,P=>P f g
 |_::T,_,_,f,g,P=>∀x,IX T (f x) (g x) P
def O6:(T:List Type)->{A B:Type}->Fn T A->Fn T B->(A->B->Prop)->Prop
 |[],_,_,f,g,P=>P f g
 |_::T,_,_,f,g,P=>∃x,O6 T (f x) (g x) P
theorem O6.el{A B:Type}{P P':A->B->Prop}{C:Prop}(k:∀a b,P a b->P' a b->C):∀{T:List Type}{f:Fn T A}{g:Fn T B},IX T f g P->O6 T f g P'->C
 |[],_,_,h,h'=>k _ _ h h'
 |_::_,_,_,h,⟨x,h'⟩=>O6.el k (h x) h'
theorem IX.mk{A B:Type}{P:A->B->Prop}:∀{T:List Type}{f:Fn T A}{g:Fn T B},(∀a b,O6 T f g (λa' b'=>a'=a/\b=b')->P a b)->IX T f g P
 |[],_,_,h=>h _ _ ⟨rfl,rfl⟩
 |_::_,_,_,h=>λx=>IX.mk λa b e=>h a b ⟨x,e⟩
theorem O6.to{A B:Type}{P P':A->B->Prop}(k:∀a b,P a b->P' a b):∀{T:List Type}{f:Fn T A}{g:Fn T B},O6 T f g P->O6 T f g P'
 |[],_,_,h=>k _ _ h
 |_::_,_,_,⟨x,h⟩=>⟨x,O6.to k h⟩
abbrev JI(T:List Type)(f:Fn T Loc)(J:Fn T<|AH->Prop)(l:Loc)(h:AH):Prop:=O6 T J f λj l'=>j h/\l=l'
abbrev JA(T:List Type)(f:Fn T Loc)(J:Fn T<|AH->Prop)(h:AH)(P:Loc->Prop):Prop:=IX T J f λj l=>j h->P l
theorem JA.of{T:List Type}{f:Fn T Loc}{J:Fn T (AH->Prop)}{h:AH}{P:Loc->Prop}(k:∀l,JI T f J l h->P l):JA T f J h P:=IX.mk λa b e q=>k b<|e.to λ_ _ e=>⟨e.1▸q,e.2⟩
theorem JA.to{T:List Type}{f:Fn T Loc}{J:Fn T (AH->Prop)}{h:AH}{P:Loc->Prop}{l:Loc}(k:JA T f J h P)(i:JI T f J l h):P l:=O6.el (P':=λj l'=>j h/\l=l') (λ_ _ h1 h2=>h2.2▸h1 h2.1) k i
def whK(b:UD)(E:AH->Prop)(K N:Loc->AH->Prop)(R:V->AH->Prop)(l:Loc)(w:Bool)(h:AH):Prop:=(w=af->b l h E K K R)/\(w=ag->N l h)
section
variable{t:NA}{b:UD}{lK:Loc}{H:AH}{E:AH->Prop}{N:Loc->AH->Prop}{R:V->AH->Prop}
theorem qD.tl{lo:Int}{m:Nat}(T:List Type)(f:Nat->Fn T Loc)(J:Nat->Fn T (AH->Prop))(h0:JI T (f 0) (J 0) lK H)
  (h2:∀i h(K:Loc->AH->Prop),i<m->(∀h,JA T (f<|i+1) (J<|i+1) h λl=>K l h)->JA T (f i) (J i) h λl=>t (.int (lo+i)) l h E<|UE b E K R)(h3:∀h,JA T (f m) (J m) h λl=>N l h):qD t b lo m lK H E N R:=
 qD.intro (λi=>JI T (f i)<|J i) h0 (λi l h K hi j nx=>(h2 i h K hi λh=>.of λl=>nx l h).to j) λl h=>(h3 h).to
theorem sG.tl{a:bp}{o:AO}{xs:List V}(T:List Type)(f:Nat->Fn T Loc)(J:Nat->Fn T (AH->Prop))(h0:JI T (f 0) (J 0) lK H)(h1:∀i h,JA T (f i) (J i) h λ_=>h a=aq o)
  (h2:∀i h x(K:Loc->AH->Prop),xs[i]?=aq x->(∀h,JA T (f<|i+1) (J<|i+1) h λl=>K l h)->JA T (f i) (J i) h λl=>t x l h E<|UE b E K R)(h3:∀h,JA T (f xs.length) (J xs.length) h λl=>N l h):sG t b a o xs lK H E N R:=
 sG.intro (λi=>JI T (f i)<|J i) h0 (λi l h=>(h1 i h).to) (λi l h x K hi j nx=>(h2 i h x K hi λh=>.of λl=>nx l h).to j) λl h=>(h3 h).to
theorem xR.tl{a:bp}{xs:List V}(T:List Type)(f:Nat->Fn T Loc)(J:Nat->Fn T (AH->Prop))(h0:JI T (f 0) (J 0) lK H)(h1:∀i h,JA T (f i) (J i) h λ_=>h a=aq (.list xs))
  (h2:∀i h x tt(K:Loc->AH->Prop),xs[i]?=aq x->h tt=aI->(∀h,JA T (f<|i+1) (J<|i+1) h λl=>K l h)->JA T (f i) (J i) h λl=>t (.ref tt) l (upd h tt<|.tup [.int i,x]) E<|UE b E K R)(h3:∀h,JA T (f xs.length) (J xs.length) h λl=>N l h):xR t b a xs lK H E N R:=
 xR.intro (λi=>JI T (f i)<|J i) h0 (λi l h=>(h1 i h).to) (λi l h x tt K hi j ht nx=>(h2 i h x tt K hi ht λh=>.of λl=>nx l h).to j) λl h=>(h3 h).to
theorem F0.tl{tv:Loc->AH->(AH->Prop)->(Bool->AH->Prop)->Prop}{b:UD}(T:List Type)(f:Nat->Fn T Loc)(J:Nat->Fn T (AH->Prop))(k:Nat)(h0:JI T (f k) (J k) lK H)
  (h:∀k h(K:Loc->AH->Prop),(∀m h,m<k->JA T (f m) (J m) h λl=>K l h)->JA T (f k) (J k) h λl=>tv l h E<|whK b E K N R l):F0 tv b lK H E N R:=
 F0.intro (λk=>JI T (f k)<|J k) k h0 λk l h1 j=>(h k h1 _ λm h lt=>.of λl j=>⟨m,lt,j⟩).to j
end
theorem px.tl{m:CM}{t:NA}{tv:Loc->AH->(AH->Prop)->(Bool->AH->Prop)->Prop}{ev:Loc->AH->(AH->Prop)->(V->AH->Prop)->Prop}{l0:Loc}{H:AH}{Q:V->AH->Prop}(T:List Type)(f:bp->Nat->Fn T Loc)(J:bp->Nat->Fn T (AH->Prop))
  (h0:∀D,H D=aI->JI T (f D 0) (J D 0) l0 (upd H D<|.list []))(h1:∀D,H D=aI->∀i h,JA T (f D i) (J D i) h λ_=>m.side h)
  (h2:∀D,H D=aI->∀i h(K:Loc->AH->Prop),(∀h,JA T (f D<|i+1) (J D<|i+1) h λl=>K l h)->JA T (f D i) (J D i) h λl=>m.turn i h<|VY t tv ev D K l)
  (h3:∀D,H D=aI->∀h,JA T (f D m.len) (J D m.len) h λ_=>Q (.ref D) h):px m t tv ev l0 H Q:=
 px.intro λD hD=>⟨λi=>JI T (f D i)<|J D i,h0 D hD,λi l h=>(h1 D hD i h).to,λi l h K j nx=>(h2 D hD i h K λh=>.of λl=>nx l h).to j,λl h=>(h3 D hD h).to⟩
structure A3(a b c:Prop):Prop where(h1:a) (h2:b) (h3:c)
structure A4(a b c d:Prop):Prop where(h1:a) (h2:b) (h3:c) (h4:d)
structure A5(a b c d e:Prop):Prop where(h1:a) (h2:b) (h3:c) (h4:d) (h5:e)
structure A6(a b c d e f:Prop):Prop where(h1:a) (h2:b) (h3:c) (h4:d) (h5:e) (h6:f)
structure A7(a b c d e f g:Prop):Prop where(h1:a) (h2:b) (h3:c) (h4:d) (h5:e) (h6:f) (h7:g)
structure A8(a b c d e f g h:Prop):Prop where(h1:a) (h2:b) (h3:c) (h4:d) (h5:e) (h6:f) (h7:g) (h8:h)
open Mine.qD renaming tl→lq
open Mine.px renaming tl→lu
theorem E7{ts vs:List Expr}{tk k:Nat}{tp p:Pos}(h:vs.all (foldedForSure 8)=af)(lJ:Env):swappedStores [.Tuple ts tk tp] (.Tuple vs k p) lJ=pure aI:=by
 unfold swappedStores;dsimp only;split
 .rfl
 .split
  .rfl
  .split
   .rfl
   .simp only[h,if_true]
def BR{α:Type}(k:Nat):List (Nat×α)->Option α
 |[]=>aI
 |(j,v)::r=>bif aF k j then aq v else BR k r
theorem xX{α β:Type}{f g:Nat×α->β}{l:List (Nat×α)}{k:Nat}{v:α}(e:l.map f=l.map g)(h:BR k l=aq v):f (k,v)=g (k,v):=by
 induction l with
 |nil=>exact pB h
 |cons p r ih=>
  let e:=List.cons.inj e;let h:(bif aF k p.1 then aq p.2 else BR k r)=aq v:=h;cases c:aF k p.1 with
  |true=>
   let h:=c▸h;obtain rfl:=aB h;let j:=p.1;let u:=p.2;obtain rfl:=bJ c;exact e.1
  |false=>have h:=c▸h;exact ih e.2 h
def ν:List (Nat×Int):=[(132,15),(95,256),(147,286),(149,30),(88,258)]
def ξ:List (Nat×bp):=[(96,32),(87,45),(154,55),(156,62),(107,109),(52,152),(138,163),(158,170),(145,177),(97,238),(90,250),(115,257),(110,262),(133,269),(113,276),(111,283),(152,290),(114,297),(100,304),(109,311),(125,318),(112,325),(129,332),(101,339),(127,344),(150,351),(126,358),(128,365),(135,370),(142,375),(134,380)]
def U5:List (Nat×bp):=[(80,109),(5,109),(34,109),(38,109),(76,152),(70,152),(89,238),(103,238),(118,238),(64,238),(91,238),(92,238),(93,238),(94,238),(81,238),(84,238),(86,238)]
def U6:List (Nat×(bp×bp)):=[(25,109,92),(55,109,99),(20,109,106),(60,152,135),(146,152,142),(121,152,149),(51,238,200),(136,238,207),(143,238,214),(140,238,221),(124,238,228),(123,238,235)]
def ρ(k:Nat):Option V:=bif aF k 141 then aq (.ref 48)else(BR k ν).map .int
def gfT(k:Nat):Option bp:=BR k ξ
def φ(C:bp)(k:Nat):Bool:=decide<|BR k U5=aq C
def Xm(C:bp)(k:Nat):Option bp:=(BR k U6).bind λp=>bif aF p.1 C then aq p.2 else aI
def cx(nw:List<|Nat×bu)(n:Nat):Cx:={nw:=nw,n:=n,gv:=ρ,gf:=gfT,fld:=φ,QQ:=Xm}
def Xn(o:Option<|Option aZ):Tok:=match o with
 |some (aq<|.int _ u)=>u
 |_=>default
theorem Xo(P:Params):ν.map (λp=>nsIn (KK P) mainGlobals<|mV p.1)=ν.map λp=>aq (aq<|.int p.2 (Xn<|nsIn (KK P) mainGlobals<|mV p.1)):=("$")
theorem U7(P:Params):nsIn (KK P) mainGlobals (mV 141)=aq (aq<|.ref 48):=("$")
theorem Xp(P:Params):ξ.map (λp=>(nsIn (KK P) mainGlobals<|mV p.1,keepIn (KK P)<|.ref p.2))=ξ.map λp=>(aq<|aq<|.ref p.2,af):=("$")
theorem U8(P:Params):U5.map (λp=>(plainGet (KK P) p.2<|mV p.1,hasDictIn (KK P) p.2,findIn (KK P) (.ref p.2)<|mV p.1,plainOver (KK P) p.2,takerIn (KK P) p.2<|mV p.1,findIn (KK P) (.ref p.2) "__setattr__"))=U5.map λ_=>(af,af,aq aI,af,aq aI,aq<|aq<|.builtin "object.__setattr__"):=("$")
theorem U9(P:Params):U6.map (λp=>(plainGet (KK P) p.2.1<|mV p.1,findIn (KK P) (.ref p.2.1)<|mV p.1,isFn (KK P)<|.ref p.2.2,keepIn (KK P)<|.ref p.2.2))=U6.map λp=>(af,aq<|aq<|.ref p.2.2,af,af):=("$")
theorem Xq(P:Params):[11,13,15,16,22,36,58,69,83,116,119,131].map (λk=>nsIn (KK P) mainGlobals<|mV k)=[11,13,15,16,22,36,58,69,83,116,119,131].map λ_=>aq aI:=("$")
theorem Xr{nw:List (Nat×bu)}(nd:(nw.map (·.1)).Nodup)(n:Nat):qK (cx nw n)where
 nd:=nd
 gv:=λk v h=>by
  let h:ρ k=aq v:=h;unfold ρ at h;cases c:aF k 141 with
  |true=>
   let h:=c▸h;obtain rfl:=aB h;rw[bJ c];exact⟨_,U7 _,.ref _⟩
  |false=>
   let h:=c▸h;obtain⟨i,e,rfl⟩:=ah.mp h;exact⟨_,xX (Xo G.w.params) e,.int _ _⟩
 gf:=λk a h=>eL<|xX (Xp G.w.params) h
 fld:=λC k h=>by let m:=xX (U8 G.w.params)<|pN h;let m1:=(eL m).1;let m:=(eL m).2;let m2:=(eL m).1;let m:=(eL m).2;let m3:=(eL m).1;let m:=(eL m).2;let m4:=(eL m).1;let m:=(eL m).2;let m5:=(eL m).1;let m6:=(eL m).2;unfold KG;exact⟨m1,m2,m3,m4,m5,m6⟩
 QQ:=λC k f h=>by
  obtain⟨p,e,h⟩:=Option.bind_eq_some_iff.mp (show Xm C k=aq f from h);cases c:aF p.1 C with
  |false=>let h:=c▸h;exact pB h
  |true=>
   let h:=c▸h;obtain rfl:=qz h;obtain rfl:=bJ c;let m:=xX (U9 G.w.params) e;let m1:=(eL m).1;let m:=(eL m).2;let m2:=(eL m).1;let m:=(eL m).2;let m3:=(eL m).1;let m4:=(eL m).2;unfold Os;exact⟨m1,m2,m3,m4⟩
 bi:=λk h=>List.map_inj_left.mp (Xq G.w.params) k h
def Ih(K:Frag)(a:bp)(k:Nat):List aZ:=match K.lookup a with
 |some ⟨_,_,.seq vs _,_⟩=>vs.toList.drop k
 |_=>[]
noncomputable def yQ(f:bp):FuncData:=match G.K.lookup f with
 |some ⟨_,_,.func fd,_⟩=>fd
 |_=>default
noncomputable def Va(f:bp):Obj:=match G.K.lookup f with
 |some o=>o
 |none=>default
def O7(nw:List<|Nat×bu)(m:Nat):Bool:=Nat.ble m nw.length&&(nw.take m).all λp=>match p.2 with
 |.local=>af
 |.cell=>af
 |_=>ag
def ru(nw:List<|Nat×bu)(vs:List aZ):List (Str×aZ):=List.zipWith (λ(p:Nat×bu) v=>(mV p.1,v)) nw vs
def YK:Nat->(List aZ->Prop)->Prop
 |0,P=>P []
 |n+1,P=>∀a,YK n λl=>P<|a::l
theorem YK.at{n:Nat}:∀{P:List aZ->Prop},YK n P->∀vs:List aZ,vs.length=n->P vs:=by
 induction n with
 |zero=>
  intro P h vs e;cases vs with
  |nil=>exact h
  |cons _ _=>exact Nat.noConfusion e
 |succ n ih=>
  intro P h vs e;cases vs with
  |nil=>exact Nat.noConfusion e
  |cons a l=>exact ih (h a) l<|Nat.succ.inj e
structure oK(f:bp)(nw:List<|Nat×bu)(m:Nat)(dv:List aZ)(pP:List Stmt):Prop where
 e:(G.K.lookup f,codeIn G.K (yQ f).code (yQ f).qualname,(yQ f).globals,(yQ f).builtins,(yQ f).closure,(yQ f).body,(yQ f).scope.isCoroutine,(yQ f).scope.isGenerator,(yQ f).scope.kind,(yQ f).scope.names,O7 nw<|m+dv.length)=
  (aq ⟨(Va f).cls,(Va f).dict,.func (yQ f),(Va f).slots⟩,af,mainGlobals,builtinsNs,[],.stmts pP,ag,ag,.function,qj nw,af)
 bind:YK m λvs=>∀S,peek G.K S (bindArgs (yQ f) ⟨vs,[]⟩)=aq (ru nw<|vs++dv)
def sH:List (Nat×bu)->List V->Loc
 |[],_=>[]
 |_::r,[]=>aI::sH r []
 |_::r,x::xs=>aq x::sH r xs
theorem L8{nw:List (Nat×bu)}:∀{i:Nat}{v:V},getL (sH nw []) i=aq v->False:=by
 induction nw with
 |nil=>intro i v h;exact pB h
 |cons p r ih=>
  intro i v h;cases i with
  |zero=>exact pB h
  |succ i=>exact ih h
theorem L9{vs:List aZ}{xs:List V}(hv:oB vs xs):∀{nw:List (Nat×bu)}{i:Nat}{v:V},getL (sH nw xs) i=aq v->∃p cv,nw[i]?=aq p/\vs[i]?=aq cv/\VR cv v:=by
 induction hv with
 |nil=>intro nw i v h;exact(L8 h).elim
 |cons h0 _ ih=>
  intro nw i v h;cases nw with
  |nil=>exact pB h
  |cons p r=>
   cases i with
   |zero=>obtain rfl:=aB h;exact⟨p,_,rfl,rfl,h0⟩
   |succ i=>exact ih (nw:=r) (i:=i) (v:=v) h
theorem Ma{α β:Type}[BEq α][LawfulBEq α]{l:List (α×β)}(nd:(l.map (·.1)).Nodup){x:α}{v:β}(m:(x,v)∈l):l.lookup x=aq v:=by
 induction l with
 |nil=>cases m
 |cons p r ih=>
  obtain⟨y,u⟩:=p;simp only[bS,fE]at nd;rcases aA.mp m with e|m
  .cases e;simp
  .have:(x==y)=ag:=beq_eq_false_iff_ne.mpr λe=>nd.1 (e▸dP (f:=(·.1)) m);rw[cf,this];exact ih nd.2 m
theorem O8{nw:List (Nat×bu)}{vs:List aZ}{xs:List V}(nd:(nw.map (·.1)).Nodup)(hp:O7 nw vs.length=af)(hv:oB vs xs):S0 (qj nw) (ru nw vs) (sH nw xs):=by
 unfold O7 at hp;rw[cN]at hp;let h1:=hp.1;let h2:=hp.2;have kinds:∀(i:Nat)(p:Nat×bu)(cv:aZ),nw[i]?=aq p->vs[i]?=aq cv->p.2=.local∨p.2=.cell:=λi p cv e e'=>by let li:i<vs.length:=(bZ.mp e').1;let:=bT.mp h2 p (bR (i:=i) (by refine bF g9▸?_;rw[mZ li];exact e));cases hk:p.2<;>rw[hk]at this<;>first|exact .inl rfl|exact .inr rfl|exact xL this
 let get:∀(i:Nat)(p:Nat×bu)(cv:aZ),nw[i]?=aq p->vs[i]?=aq cv->(ru nw vs)[i]?=aq (mV p.1,cv):=λi p cv e e'=>by unfold ru;refine bF jM▸?_;rw[e];exact bF e'▸rfl
 refine⟨λx m=>?_,λi v h=>?_⟩
 .obtain⟨i,hi,e⟩:=kA.mp m;have e':(ru nw vs)[i]?=aq x:=bZ.mpr ⟨hi,e⟩;unfold ru at e';have e':=jM▸e';cases a:nw[i]? with
  |none=>let e':=a▸e';exact pB e'
  |some p=>
   cases b:vs[i]? with
   |none=>have e':=a▸e';let e':=b▸e';exact pB e'
   |some cv=>
    let e':=a▸e';let e':=b▸e';let e':(mV p.1,cv)=x:=by simpa using e'
    subst e';let:=mM (rk nd)<|nX (i:=i) (k:=p.1) (kd:=p.2) a;rcases kinds i p cv a b with k|k
    .left;rw[this];exact bF k▸rfl
    .right;rw[this];exact bF k▸rfl
 .refine gu λP9 mG=>?_;obtain⟨p,cv,a,b,c⟩:=L9 hv h;refine mG ?_;refine⟨mV p.1,p.2,cv,nX a,kinds i p cv a b,?_,c⟩;let nb:((ru nw vs).map (·.1)).Nodup:=by
   let:(ru nw vs).map (·.1)=((qj nw).map (·.1)).take vs.length:=by
    unfold ru qj;rw[List.map_zipWith];rw[cO];apply jK;intro j;refine bF jM▸?_;refine bF g9▸?_;refine bF cj▸?_;by_cases l:j<vs.length
    .rw[mZ l];rw[bU l];cases nw[j]?<;>rfl
    .rw[mT l];refine bF (i8<|Nat.le_of_not_lt l)▸?_;cases nw[j]?<;>rfl
   rw[this];exact(rk nd).sublist (List.take_sublist _ _)
  refine Ma ?_<|List.mem_reverse.mpr<|bR<|get i p cv a b;rw[kK];exact(List.reverse_perm _).symm.nodup nb
section
variable{f:bp}{nw:List (Nat×bu)}{m n:Nat}{dv:List aZ}{xd:List V}{args:List V}{H:AH}{Q:V->AH->Prop}{E:AH->Prop}
theorem O9{b:lZ (cx nw n)}(F:oK f nw m dv b.pP)(nd:(nw.map (·.1)).Nodup)(hd:oB dv xd)(ha:args.length=m)
  (h:b.ev (sH nw<|args++xd) H E (λ_ H=>Q .none H) (λ_ _=>False) Q):∀S X A s vs,Yv n S A->Rep S X H s.heap->oB vs args->[oz s]->oP (0<n) G.M A (.call (.ref f) ⟨vs,[]⟩) (xM S X Q E) s:=by
 let e:=F.1;let bd:=F.2;simp only[Prod.mk.injEq]at e;let h1:=e.1;let h2:=e.2.1;let h3:=e.2.2.1;let h4:=e.2.2.2.1;let h5:=e.2.2.2.2.1;let h6:=e.2.2.2.2.2.1;let h7:=e.2.2.2.2.2.2.1;let h8:=e.2.2.2.2.2.2.2.1;let h9:=e.2.2.2.2.2.2.2.2.1;let χ:=e.2.2.2.2.2.2.2.2.2.1;let h11:=e.2.2.2.2.2.2.2.2.2.2;refine N2 (fd:=yQ f) h1 h2 h3 h4 h5 h6 h7 h8 h9 (by rw[χ];exact rk nd) (lK:=sH nw<|args++xd)
  (λvs s qG hb=>⟨ru nw<|vs++dv,λM A E Q q=>(Looks.of_peek (M:=M) (K:=G.K) hb<|bd.at vs (qG.len.trans ha) _).here q,?_⟩) λlJ he=>?_
 .rw[χ];refine O8 nd ?_<|qG.append hd;rw[cz];rw[qG.len];rw[ha];exact h11
 .refine Tr.mono (b.ok lJ _ H E _ _ _ (Xr nd _) (by show lJ.scope.names=_;rw[he];rw[χ];rfl) h) λfl l H' q=>?_;cases fl with
  |next=>exact⟨_,rfl,q⟩
  |cont=>exact q.elim
  |brk=>exact q.elim
  |ret v=>obtain⟨x,hx,q⟩:=q;exact⟨x,hx,q⟩
theorem nS{b:lZ (cx nw<|n+1)}(F:oK f nw m dv b.pP)(nd:(nw.map (·.1)).Nodup)(hd:oB dv xd)(ha:args.length=m)
  (h:b.ev (sH nw<|args++xd) H E (λ_ H=>Q .none H) (λ_ _=>False) Q):mH (n+1) (.ref f) args H Q E:=λS X A s vs ok r v=>(O9 F nd hd ha h S X A s vs ok r v).tt
theorem Vb{b:lZ (cx nw 0)}(F:oK f nw m dv b.pP)(nd:(nw.map (·.1)).Nodup)(hd:oB dv xd)(ha:args.length=m)
  (h:b.ev (sH nw<|args++xd) H (λ_=>False) (λ_ H=>Q .none H) (λ_ _=>False) Q):AV (.ref f) args H Q:=λS X A s vs ok r v _=>(O9 F nd hd ha h S X A s vs ok r v).any (bW _)
theorem mH.up{n n':Nat}{f:aZ}(le:n<=n')(c:mH n f args H Q E):mH n' f args H Q E:=λS X A s vs ok r v=>by refine gu λP9 mG=>?_;obtain⟨o1,o2,o3,o4,o5⟩:=ok;refine mG ?_;exact c S X A s vs ⟨("r+KJ({]9G(fWy~ip?&(^FjS<~k,qf5'#",le,o1),o2,("'TrlU9}](c[o`6O_GA&y;T%T'#",le,o3),o4,o5⟩ r v
theorem aCall.at{X:Cx}{n k:Nat}{a:bp}{xs:List V}(e:X.n=k+1)(le:n<=k)(c:mH n (.ref a) xs H Q E):kT X a xs H Q E:=aCall.intro e<|c.up le
end
open Mine.aCall renaming «at»→lw
section
open PySem.NameKind renaming globalImplicit->gI,«local»->lO
local macro_rules | `(($n:num)) => `(nat_lit $n)
def P(n:Nat):Pos:=⟨n/1048576,n/8192 % 128,n/1048576+n/128 % 64,n % 128⟩
def PN(n:Nat):Pos:=⟨n/8192,n/64 % 128,n/8192,n/64 % 128+n % 64⟩
def pJ(a b:Pos):Pos:=⟨a.line,a.col,b.endLine,b.endCol⟩
def pK(a b:Pos):Pos:=⟨a.line,a.col,b.endLine,b.endCol+1⟩
def pL(d:Pos):List Expr->Pos
 |[]=>d
 |e::r=>pL e.pos r
def pA(a:Pos)(n:Nat):Pos:=⟨a.line,a.col,a.endLine,a.endCol+n⟩
def pC(a:Pos)(es:List Expr):Pos:=pK a<|pL (pA a 1) es
def pT(es:List Expr):Pos:=match es with
 |[]=>P 0
 |e::r=>⟨e.pos.line,e.pos.col-1,(pL e.pos r).endLine,(pL e.pos r).endCol+1⟩
def pU(es:List Expr):Pos:=match es with
 |[]=>P 0
 |e::r=>pJ e.pos<|pL e.pos r
theorem Vc{a b:Bool}(h:(a&&b)=af):a=af:=by cases a with
 |true=>rfl
 |false=>exact h
theorem QS{a b:Bool}(h:(a&&b)=af):b=af:=by cases a with
 |true=>exact h
 |false=>exact Bool.noConfusion h
section
variable{X:Cx}
def nI(a:SE X)(h:aJ 0 (kE a.ex)=af):oa X:=.cons a .nil h
def pM(a b:SE X)(h:(aJ 0 (kE a.ex)&&aJ 0 (kE b.ex))=af):oa X:=.cons a (.cons b .nil (QS h)) (Vc h)
def sI(a b c:SE X)(h:(aJ 0 (kE a.ex)&&(aJ 0 (kE b.ex)&&aJ 0 (kE c.ex)))=af):oa X:=.cons a (.cons b (.cons c .nil (QS<|QS h)) (Vc<|QS h)) (Vc h)
def oR(l r:SE X):SE X:=jh l .Add r (pJ l.ex.pos r.ex.pos)
def vf(l r:SE X):SE X:=jh l .Sub r (pJ l.ex.pos r.ex.pos)
def vg(l r:SE X):SE X:=jh l .Mult r (pJ l.ex.pos r.ex.pos)
def xJ(l r:SE X):SE X:=jh l .FloorDiv r (pJ l.ex.pos r.ex.pos)
def wn(l r:SE X):SE X:=jh l .Mod r (pJ l.ex.pos r.ex.pos)
def YL(l r:SE X):SE X:=jh l .Pow r (pJ l.ex.pos r.ex.pos)
def tI(l r:SE X)(h:aJ 0 (kE r.ex)=af):SE X:=kU l .Eq r (pJ l.ex.pos r.ex.pos) h
def xY(l r:SE X)(h:aJ 0 (kE r.ex)=af):SE X:=kU l .Gt r (pJ l.ex.pos r.ex.pos) h
def Di(l r:SE X)(h:aJ 0 (kE r.ex)=af):SE X:=kU l .Lt r (pJ l.ex.pos r.ex.pos) h
def RR(l r:SE X)(h:aJ 0 (kE r.ex)=af):SE X:=kU l .NotEq r (pJ l.ex.pos r.ex.pos) h
def lX(i n:Nat):SE X:=SE.lo i<|PN n
def F5(i n:Nat):SE X:=SE.gl i<|PN n
def mj(i:Int)(n:Nat):SE X:=SE.ci i<|PN n
def rh(i n:Nat):SE X:=SE.cs i<|PN n
def BS(i:Bool)(n:Nat):SE X:=SE.cb i<|PN n
def nM(i n:Nat):ST X:=ST.nm i<|PN n
def Vd(l:SE X)(op:Operator)(r:SE X):SE X:=jh l op r<|pJ l.ex.pos r.ex.pos
def Mb(l:SE X)(op:CmpOp)(r:SE X)(h:aJ 0 (kE r.ex)=af):SE X:=kU l op r (pJ l.ex.pos r.ex.pos) h
def BT(op:BoolOp)(l r:SE X)(h:aJ 0 (kE l.ex)=af)(h2:aJ 0 (kE r.ex)=af):SE X:=kZ op l r (pJ l.ex.pos r.ex.pos) h h2
def o0(l r:SE X):SE X:=SE.su l r<|pK l.ex.pos r.ex.pos
def zN(l r:SE X):ST X:=ST.su l r<|pK l.ex.pos r.ex.pos
def qZ(l:SE X)(k n:Nat)(h:(!aF (kE l.ex) 2)=af):SE X:=SE.at l k (pA l.ex.pos n) h
def xq(l:SE X)(k n:Nat):ST X:=ST.at l k<|pA l.ex.pos n
def qc(i:Nat)(es:oa X)(n:Nat):SE X:=SE.ca i es (PN n)<|pC (PN n) es.qx
def qH(b:BI)(i:Nat)(es:oa X)(n:Nat):SE X:=SE.bc b i es (PN n)<|pC (PN n) es.qx
def rF(e:SE X)(k:Nat)(es:oa X)(n:Nat)(h:((!aF (kE e.ex) 2)&&(aJ es.qx.length 30&&((pA e.ex.pos n).endLine==(pC (pA e.ex.pos n) es.qx).line)))=af):SE X:=SE.me e k es (pA e.ex.pos n) (pC (pA e.ex.pos n) es.qx) (Vc h) (Vc<|QS h)<|QS<|QS h
def yR(es:oa X)(k:Nat):SE X:=kP es k<|pT es.qx
def El(es:po X)(k:Nat):ST X:=ST.tp es k<|pU es.qx
def xK(es:oa X):SE X:=jW es<|pT es.qx
def nR(t:ST X)(e:SE X)(h:((aJ 0 (kE e.ex)&&!(aF (kE e.ex) 3&&YA t.ex))&&((!(aF (kE t.ex) 4&&aF (kE e.ex) 4))&&aJ 0 (kE t.ex)))=af):SS X:=SS.as t e (pJ t.ex.pos e.ex.pos) (Vc h) (Vc<|QS h)<|QS<|QS h
def sC(e:SE X)(hs:(aJ 0 (kE e.ex)&&!aF (kE e.ex) 3)=af):SS X:=SS.xp e e.ex.pos hs
def sD(e:SE X)(c:Nat):SS X:=SS.re e ⟨e.ex.pos.line,c,e.ex.pos.endLine,e.ex.pos.endCol⟩
end
def qn:List (Nat×bu):=[(44,lO),(49,lO)]
theorem yS:(qn.map (·.1)).Nodup:=by decide
def BU:lZ (cx qn 1):=.cons (SS.as (ST.ax (lX 0<|41476) 49<|P<|5308433) (lX 1<|42244) (P<|5308440) y y y) iO
def Ad:lZ (cx qn 1):=BU
theorem Ae:oK 29 qn 2 [] Ad.pP:=⟨("$"),λ_ _ _=>("$")⟩
def nC:List (Nat×bu):=[(65,lO),(67,lO),(45,lO),(40,lO),(69,gI),(88,gI)]
theorem rY:(nC.map (·.1)).Nodup:=by decide
def yT:lZ (cx nC 1):=.cons (sD (lX 0<|180933) 4) iO
def yU:lZ (cx nC 1):=.cons (sC (rF (lX 0<|172293) 73 (nI (yR (pM (F5 5<|173191) (mj 0<|173761) y) 0) y) 7 y) y) yT
def yV:lZ (cx nC 1):=.cons (nR (nM 1<|164357) (jh (lX 1<|164869) .Add (Vd (mj 1<|165441) .LShift (lX 3<|165764)) (P<|21102627)) y) iO
def ti:lZ (cx nC 1):=.cons (sC (rF (lX 0<|156165) 73 (nI (yR (pM (lX 1<|157061) (lX 3<|157508) y) 0) y) 7 y) y) yV
def yW:lZ (cx nC 1):=.cons (nR (nM 3<|147972) (kg (Di (lX 2<|148740) (mj 8<|149185) y) (mj 0<|148417) (vf (xJ (lX 2<|149636)<|mj 4<|150145)<|mj 1<|150401)<|P<|18997295) y) ti
def yX:lZ (cx nC 1):=.cons (j4 (nM 2<|139780) 4 (nI (mj 28<|140674) y) (P<|17956885) (P<|17956889) yW<|P<|17858979) yU
def yY:lZ (cx nC 1):=.cons (j5 rY [(0,(P<|16809993)),(1,(P<|16867344))] 0 (P<|16810000) (pM (jW ji<|P<|16941078) (mj 3<|132609) y) 0 (P<|16932890) (P<|16810010) y y) yX
def xZ:lZ (cx nC 1):=yY
theorem ya:oK 55 nC 0 [] xZ.pP:=⟨("$"),λ_=>("$")⟩
def nB:List (Nat×bu):=[(65,lO),(67,lO),(45,lO),(40,lO),(69,gI),(149,gI)]
theorem rA:(nB.map (·.1)).Nodup:=by decide
def xr:lZ (cx nB 1):=.cons (sD (lX 0<|238277) 4) iO
def xt:lZ (cx nB 1):=.cons (nR (nM 1<|229893) (jh (lX 1<|230405) .Add (Vd (mj 1<|230977) .LShift (lX 3<|231300)) (P<|29491235)) y) iO
def rZ:lZ (cx nB 1):=.cons (sC (rF (lX 0<|221701) 73 (nI (yR (pM (lX 1<|222597) (lX 3<|223044) y) 0) y) 7 y) y) xt
def xu:lZ (cx nB 1):=.cons (nR (nM 3<|213508) (kg (Di (lX 2<|214276) (mj 4<|214721) y) (mj 0<|213953) (vf (xJ (lX 2<|215172)<|mj 2<|215681)<|mj 1<|215937)<|P<|27385903) y) rZ
def xw:lZ (cx nB 1):=.cons (j4 (nM 2<|205316) 4 (nI (F5 5<|206222) y) (P<|26345493) (P<|26345509) xu<|P<|26247587) xr
def xx:lZ (cx nB 1):=.cons (j5 rA [(0,(P<|25198601)),(1,(P<|25255952))] 0 (P<|25198608) (pM (jW ji<|P<|25329686) (mj 1<|198145) y) 0 (P<|25321498) (P<|25198618) y y) xw
def wo:lZ (cx nB 1):=xx
theorem wt:oK 62 nB 0 [] wo.pP:=⟨("$"),λ_=>("$")⟩
def oj:List (Nat×bu):=[(44,lO),(80,lO),(5,lO)]
theorem yb:(oj.map (·.1)).Nodup:=by decide
def Af:lZ (cx oj 2):=.cons (nR (xq (lX 0<|295428) 38 5) (mj 0<|296193) y) iO
def Ag:lZ (cx oj 2):=.cons (nR (xq (lX 0<|287236) 34 5) (mj 0<|288001) y) Af
def Ah:lZ (cx oj 2):=.cons (nR (xq (lX 0<|279044) 5 3) (lX 2<|279682) y) Ag
def Ai:lZ (cx oj 2):=.cons (nR (xq (lX 0<|270852) 80 7) (lX 1<|271750) y) Ah
def yZ:lZ (cx oj 2):=Ai
theorem y4:oK 77 oj 3 [] yZ.pP:=⟨("$"),λ_ _ _ _=>("$")⟩
def pQ:List (Nat×bu):=[(44,lO)]
theorem xy:(pQ.map (·.1)).Nodup:=by decide
def y9:lZ (cx pQ 0):=.cons (sD (qZ (lX 0<|328644) 5 3 y) 8) iO
def yc:lZ (cx pQ 0):=y9
theorem yd:oK 84 pQ 1 [] yc.pP:=⟨("$"),λ_ _=>("$")⟩
def mW:List (Nat×bu):=[(44,lO),(38,lO),(65,lO),(13,gI),(87,gI)]
theorem ye:(mW.map (·.1)).Nodup:=by decide
def Aj:lZ (cx mW 3):=.cons (sD (lX 2<|426949) 8) iO
def Ak:lZ (cx mW 3):=.cons (kW (lX 0<|418308) 38 (P<|53542929) .Sub (lX 1<|419140) (P<|53542937)) Aj
def Al:lZ (cx mW 3):=.cons (nR (xq (lX 0<|410116) 34 5) (Vd (qZ (lX 0<|410884) 34 5 y) .RShift (lX 1<|411716)) y) Ak
def Am:lZ (cx mW 3):=.cons (nR (nM 2<|401925) (Vd (qZ (lX 0<|402436) 34 5 y) .BitAnd (jh (Vd (mj 1<|403265) .LShift (lX 1<|403588)) .Sub (mj 1<|404097) (P<|51609643))) y) Al
def An:lZ (cx mW 3):=.cons (kW (lX 0<|393988) 38 (P<|50429973) .Add (mj 8<|394817) (P<|50429978)) iO
def Ao:lZ (cx mW 3):=.cons (kW (lX 0<|385796) 5 (P<|49381395) .Add (mj 1<|386497) (P<|49381400)) An
def Ap:lZ (cx mW 3):=.cons (nR (xq (lX 0<|377604) 34 5) (Vd (qZ (lX 0<|378372) 34 5 y) .BitOr (Vd (o0 (qZ (lX 0<|379140) 80 7 y)<|qZ (lX 0<|379908) 5 3 y) .LShift (qZ (lX 0<|380676) 38 5 y))) y) Ao
def Aq:lZ (cx mW 3):=.cons (j6 4 159 (P<|47366173) (P<|47431733) (P<|47366198)<|P<|47317046) iO
def Ar:lZ (cx mW 3):=.cons (iY (Mb (qZ (lX 0<|361412) 5 3 y) .GtE (qH .len 3 (nI (qZ (lX 0<|362372) 80 7 y) y) (362115)) y) Aq iO<|P<|46235830) Ap
def za:lZ (cx mW 3):=.cons (kQ (Di (qZ (lX 0<|353156) 38 5 y) (lX 1<|353924) y) Ar<|P<|45154970) Am
def zc:lZ (cx mW 3):=za
theorem ze:oK 92 mW 2 [] zc.pP:=⟨("$"),λ_ _ _=>("$")⟩
def oX:List (Nat×bu):=[(44,lO)]
theorem xz:(oX.map (·.1)).Nodup:=by decide
def zf:lZ (cx oX 1):=.cons (nR (xq (lX 0<|459268) 38 5) (mj 0<|460033) y) iO
def zg:lZ (cx oX 1):=.cons (nR (xq (lX 0<|451076) 34 5) (mj 0<|451841) y) zf
def yf:lZ (cx oX 1):=zg
theorem yg:oK 99 oX 1 [] yf.pP:=⟨("$"),λ_ _=>("$")⟩
def nP:List (Nat×bu):=[(44,lO),(38,lO),(65,lO),(13,gI),(87,gI)]
theorem zh:(nP.map (·.1)).Nodup:=by decide
def BV:lZ (cx nP 3):=.cons (sD (lX 2<|525253) 8) iO
def BW:lZ (cx nP 3):=.cons (kW (lX 0<|516612) 5 (P<|66125839) .Add (lX 1<|517316) (P<|66125847)) BV
def BX:lZ (cx nP 3):=.cons (nR (nM 2<|508421) (jC (qZ (lX 0<|508932) 80 7 y) (aq<|qZ (lX 0<|509700) 5 3 y) (aq<|oR (qZ (lX 0<|510212) 5 3 y)<|lX 1<|510852) (P<|65241138)<|P<|65142835) y) BW
def BY:lZ (cx nP 3):=.cons (j6 4 163 (P<|64110617) (P<|64176179) (P<|64110644)<|P<|64061492) iO
def BZ:lZ (cx nP 3):=.cons (iY (xY (oR (qZ (lX 0<|492228) 5 3 y)<|lX 1<|492868) (qH .len 3 (nI (qZ (lX 0<|493572) 80 7 y) y) (493315)) y) BY iO<|P<|62980276) BX
def B0:lZ (cx nP 3):=.cons (sC (rF (lX 0<|483844) 55 ji 6 y) y) BZ
def As:lZ (cx nP 3):=B0
theorem At:oK 106 nP 2 [] As.pP:=⟨("$"),λ_ _ _=>("$")⟩
def nE:List (Nat×bu):=[(44,lO),(93,lO),(139,lO),(137,lO),(78,lO),(132,gI),(87,gI)]
theorem sS:(nE.map (·.1)).Nodup:=by decide
def GN:lZ (cx nE 4):=.cons (nR (xq (lX 0<|614916) 70 6) (rF (lX 0<|615748) 146 (nI (lX 1<|616903) y) 13 y) y) iO
def zO:lZ (cx nE 4):=.cons (sC (rF (lX 0<|606724) 60 (pM (lX 2<|607435) (lX 3<|608267) y) 6 y) y) GN
def GO:lZ (cx nE 4):=.cons (nR (zN (qZ (lX 0<|598532) 76 7 y)<|mj 0<|599297) (mj 0<|599617) y) zO
def GP:lZ (cx nE 4):=.cons (SS.as' (qZ (lX 0<|590596) 76 7 y) (lX 4<|591366) (P<|75595807) .Add (mj 1<|592065) (P<|75595812) y) iO
def GQ:lZ (cx nE 4):=.cons (j6 6 157 (P<|74629149) (P<|74694706) (P<|74629171)<|P<|74580019) iO
def GR:lZ (cx nE 4):=.cons (iY (BT .Or (Di (lX 4<|574406) (mj 0<|574977) y) (xY (lX 4<|575302) (F5 5<|575883) y) y y) GQ iO<|P<|73498803) GP
def GS:lZ (cx nE 4):=.cons (kR (nM 4<|566022) (lX 1<|566663) GR (P<|72417700) y) GO
def GT:lZ (cx nE 4):=.cons (nR (xq (lX 0<|557572) 76 7) (jh (xK<|nI (mj 0<|558529) y) .Mult (oR (F5 5<|558923)<|mj 1<|559809) (P<|71483437)) y) GS
def qU:lZ (cx nE 4):=GT
theorem Dj:oK 128 nE 2 (Ih G.K 121 0) qU.pP:=⟨("$"),λ_ _ _=>("$")⟩
theorem Dk:oK 128 nE 3 (Ih G.K 121 1) qU.pP:=⟨("$"),λ_ _ _ _=>("$")⟩
theorem Dl:oK 128 nE 4 [] qU.pP:=⟨("$"),λ_ _ _ _ _=>("$")⟩
def mU:List (Nat×bu):=[(44,lO),(139,lO),(137,lO),(31,lO),(38,lO),(78,lO),(69,gI),(132,gI),(87,gI)]
theorem B1:(mU.map (·.1)).Nodup:=by decide
def E8:lZ (cx mU 3):=.cons (j6 8 155 (P<|94486549) (P<|94552105) (P<|94486570)<|P<|94437418) iO
def E9:lZ (cx mU 3):=.cons (kS<|P<|93421586) iO
def yh:lZ (cx mU 3):=.cons (iY (kX .And (sI (tI (lX 4<|721604) (mj 1<|722113) y) (tI (o0 (qZ (lX 0<|722500) 76 7 y)<|mj 1<|723265) (mj 1<|723649) y) (lX 2<|724043) y) (P<|92364860)) E9 iO<|P<|92340370) E8
def Fa:lZ (cx mU 3):=.cons (kS<|P<|91324434) iO
def Fb:lZ (cx mU 3):=.cons (iY (BT .And (tI (lX 4<|705220) (mj 0<|705729) y) (lX 1<|706123) y y) Fa iO<|P<|90243218) yh
def Fc:lZ (cx mU 3):=.cons (kS<|P<|89227282) iO
def Fd:lZ (cx mU 3):=.cons (iY (tI (lX 3<|688836) (mj 0<|689345) y) Fc iO<|P<|88146066) Fb
def Fe:lZ (cx mU 3):=.cons (j6 8 151 (P<|87212061) (P<|87277614) (P<|87212079)<|P<|87162927) iO
def Ff:lZ (cx mU 3):=.cons (iY (Di (lX 3<|672708) (mj 0<|673153) y) Fe iO<|P<|86081711) iO
def Dm:lZ (cx mU 3):=.cons (SS.an 4 (P<|85032976) .Add (o0 (qZ (lX 0<|664836) 76 7 y)<|lX 5<|665606) (P<|85032999)) Ff
def Dn:lZ (cx mU 3):=.cons (nR (nM 3<|656132) (vf (vg (lX 3<|656580)<|mj 2<|657025)<|o0 (qZ (lX 0<|657284) 76 7 y)<|lX 5<|658054) y) Dm
def Do:lZ (cx mU 3):=.cons (j4 (nM 5<|647942) 6 (pM (mj 1<|648961) (oR (F5 7<|649163)<|mj 1<|650049) y) (P<|83017755) (P<|83017775) Dn<|P<|82903599) Fd
def Dp:lZ (cx mU 3):=.cons (kY (El (iV (nM 3<|639492) (iV (nM 4<|639876) jk y) y) 0) (yR (pM (mj 1<|640385) (mj 0<|640577) y) 0) (P<|81854491) y (λlJ _ _=>E7 rfl lJ) y) Do
def Dq:lZ (cx mU 3):=Dp
theorem Dr:oK 135 mU 3 [] Dq.pP:=⟨("$"),λ_ _ _ _=>("$")⟩
def mQ:List (Nat×bu):=[(44,lO),(93,lO),(74,lO),(78,lO),(65,lO),(45,lO),(132,gI),(69,gI),(119,gI)]
theorem uG:(mQ.map (·.1)).Nodup:=by decide
def wu:lZ (cx mQ 1):=.cons (sD (lX 4<|828357) 8) iO
def wv:lZ (cx mQ 1):=.cons (SS.as' (lX 2<|820230) (lX 3<|820678) (P<|104988702) .Add (mj 1<|821377) (P<|104988707) y) iO
def ww:lZ (cx mQ 1):=.cons (nR (zN (lX 4<|812037)<|o0 (lX 2<|812422)<|lX 3<|812870) (lX 5<|813572) y) wv
def wx:lZ (cx mQ 1):=.cons (iY (xY (lX 3<|803782) (mj 0<|804353) y) ww iO<|P<|102859043) iO
def wy:lZ (cx mQ 1):=.cons (lf (iV (nM 5<|795396) (iV (nM 3<|795782) jk y) y) 0 (P<|101810200) 8 (nI (lX 1<|797063) y) (P<|101941285) (P<|101941294) wx<|P<|101777827) wu
def wz:lZ (cx mQ 1):=.cons (nR (nM 4<|786949) (vg (xK<|nI (mj 0<|787521) y)<|o0 (lX 2<|787846)<|oR (F5 6<|788299)<|mj 1<|789185) y) wy
def wA:lZ (cx mQ 1):=.cons (nR (zN (lX 2<|779014)<|oR (lX 3<|779462)<|mj 1<|780033) (oR (o0 (lX 2<|780358)<|lX 3<|780806)<|o0 (qZ (lX 0<|781444) 76 7 y)<|lX 3<|782214) y) iO
def wB:lZ (cx mQ 1):=.cons (j4 (nM 3<|770822) 7 (pM (mj 1<|771841) (oR (F5 6<|772043)<|mj 1<|772929) y) (P<|98746395) (P<|98746415) wA<|P<|98631877) wz
def wC:lZ (cx mQ 1):=.cons (nR (nM 2<|762374) (jh (xK<|nI (mj 0<|763009) y) .Mult (oR (F5 6<|763403)<|mj 2<|764289) (P<|97656872)) y) wB
def vC:lZ (cx mQ 1):=wC
theorem vD:oK 142 mQ 2 [] vC.pP:=⟨("$"),λ_ _ _=>("$")⟩
def mY:List (Nat×bu):=[(44,lO),(81,lO),(29,lO),(63,lO),(54,lO),(78,lO),(38,lO),(69,gI),(132,gI),(87,gI)]
theorem xA:(mY.map (·.1)).Nodup:=by decide
def zi:lZ (cx mY 4):=.cons (j6 9 160 (P<|117555221) (P<|117620782) (P<|117555247)<|P<|117506095) iO
def zj:lZ (cx mY 4):=.cons (nR (nM 3<|910085) (jh (oR (lX 3<|910661)<|lX 6<|911172) .Mult (mj 2<|911681) (P<|116555814)) y) iO
def zk:lZ (cx mY 4):=.cons (SS.an 4 (P<|115441681) .Add (lX 6<|902468) (P<|115441689)) zj
def zo:lZ (cx mY 4):=.cons (sD (o0 (qZ (lX 0<|894404) 70 6 y)<|vf (oR (lX 4<|895109)<|lX 2<|895620)<|lX 3<|896069) 16) iO
def zp:lZ (cx mY 4):=.cons (iY (Di (lX 2<|885700) (oR (lX 3<|886149)<|lX 6<|886660) y) zo iO<|P<|113344695) zk
def zq:lZ (cx mY 4):=.cons (nR (nM 6<|877316) (o0 (qZ (lX 0<|877764) 76 7 y)<|lX 5<|878534) y) zp
def zr:lZ (cx mY 4):=.cons (nR (nM 2<|869124) (oR (vg (lX 2<|869572)<|mj 2<|870017)<|rF (lX 1<|870278) 25 (nI (mj 1<|871041) y) 5 y) y) zq
def zt:lZ (cx mY 4):=.cons (j4 (nM 5<|860934) 7 (pM (mj 1<|861953) (oR (F5 8<|862155)<|mj 1<|863041) y) (P<|110280731) (P<|110280751) zr<|P<|110166822) zi
def zu:lZ (cx mY 4):=.cons (kY (El (iV (nM 2<|852484) (iV (nM 3<|852869) (iV (nM 4<|853317) jk y) y) y) 0) (yR (sI (mj 0<|853889) (mj 0<|854081) (mj 0<|854273) y) 0) (P<|109117478) y (λlJ _ _=>E7 rfl lJ) y) zt
def yi:lZ (cx mY 4):=zu
theorem yj:oK 149 mY 2 [] yi.pP:=⟨("$"),λ_ _ _=>("$")⟩
def qf:List (Nat×bu):=[(93,lO),(52,gI)]
theorem B2:(qf.map (·.1)).Nodup:=by decide
def yk:lZ (cx qf 6):=.cons (sD (yR (pM (qc 1 (nI (lX 0<|943239) y)<|942853) (qc 1 (pM (vg (xK<|nI (mj 5<|944321) y)<|mj 32<|944642) (BS af<|944900) y)<|943877) y) 0) 4) iO
def Fg:lZ (cx qf 6):=.cons (nR (nM 0<|934151) (oR (oR (oR (vg (xK<|nI (mj 8<|934849) y)<|mj 144<|935171)<|vg (xK<|nI (mj 9<|935617) y)<|mj 112<|935939)<|vg (xK<|nI (mj 7<|936385) y)<|mj 24<|936706)<|vg (xK<|nI (mj 8<|937089) y)<|mj 8<|937409) y) yk
def Du:lZ (cx qf 6):=Fg
theorem Dv:oK 163 qf 0 [] Du.pP:=⟨("$"),λ_=>("$")⟩
def mo:List (Nat×bu):=[(81,lO),(61,lO),(38,lO),(65,lO),(45,lO),(53,lO),(71,lO),(13,gI),(132,gI),(87,gI)]
theorem oJ:(mo.map (·.1)).Nodup:=by decide
def uH:lZ (cx mo 5):=.cons (sD (lX 3<|1098437) 4) iO
def uI:lZ (cx mo 5):=.cons (sC (rF (lX 3<|1090053) 77 (nI (vg (xK<|nI (lX 5<|1090949) y)<|lX 6<|1091525) y) 7 y) y) iO
def uJ:lZ (cx mo 5):=.cons (j6 9 162 (P<|138559513) (P<|138625075) (P<|138559540)<|P<|138510388) iO
def p5:lZ (cx mo 5):=.cons (iY (xY (oR (qH .len 7 (nI (lX 3<|1074117) y) (1073859))<|lX 6<|1074693) (lX 2<|1075204) y) uJ iO<|P<|137429172) uI
def uK:lZ (cx mo 5):=.cons (j5 oJ [(5,(P<|132218897)),(6,(P<|132276248))] 0 (P<|132218904) (pM (o0 (lX 3<|1033989)<|lg (mj 1<|1034433)<|P<|132399140) (oR (mj 3<|1034689)<|rF (lX 0<|1034950) 25 (nI (mj 2<|1035713) y) 5 y) y) 0 (P<|132341818) (P<|132218938) y y) iO
def uL:lZ (cx mo 5):=.cons (j6 9 170 (P<|131252253) (P<|131317839) (P<|131252304)<|P<|131203152) iO
def uM:lZ (cx mo 5):=.cons (iY (tI (lX 3<|1016773) (jW ji<|P<|130220058) y) uL iO<|P<|130121936) uK
def uN:lZ (cx mo 5):=.cons (j5 oJ [(5,(P<|134316049)),(6,(P<|134373400))] 0 (P<|134316056) (pM (mj 0<|1050369) (oR (mj 3<|1050561)<|rF (lX 0<|1050822) 25 (nI (mj 3<|1051585) y) 5 y) y) 0 (P<|134438962) (P<|134316082) y y) iO
def uO:lZ (cx mo 5):=.cons (j5 oJ [(5,(P<|136413201)),(6,(P<|136470552))] 0 (P<|136413208) (pM (mj 0<|1066753) (oR (mj 11<|1066946)<|rF (lX 0<|1067270) 25 (nI (mj 7<|1068033) y) 5 y) y) 0 (P<|136536115) (P<|136413235) y y) iO
def tP:lZ (cx mo 5):=.cons (iY (tI (lX 4<|1041220) (mj 17<|1041730) y) uN uO<|P<|133235123) iO
def qV:lZ (cx mo 5):=.cons (iY (tI (lX 4<|1008324) (mj 16<|1008834) y) uM tP<|P<|129041331) p5
def tQ:lZ (cx mo 5):=.cons (SS.co<|P<|128024596) iO
def tR:lZ (cx mo 5):=.cons (sC (rF (lX 3<|992005) 73 (nI (lX 4<|992836) y) 7 y) y) tQ
def tS:lZ (cx mo 5):=.cons (iY (Mb (lX 4<|983748) .LtE (F5 8<|984267) y) tR iO<|P<|125894932) qV
def tT:lZ (cx mo 5):=.cons (nR (nM 4<|975364) (rF (lX 1<|975813) 121 (nI (lX 0<|976838) y) 10 y) y) tS
def tU:lZ (cx mo 5):=.cons (kQ (Di (qH .len 7 (nI (lX 3<|967557) y) (967299)) (lX 2<|968132) y) tT<|P<|123766693) uH
def tV:lZ (cx mo 5):=.cons (nR (nM 3<|958725) (jW ji<|P<|122781710) y) tU
def tW:lZ (cx mo 5):=tV
theorem tX:oK 170 mo 3 [] tW.pP:=⟨("$"),λ_ _ _ _=>("$")⟩
def nu:List (Nat×bu):=[(81,lO),(105,lO),(118,lO),(49,lO),(93,lO),(48,lO),(65,lO),(147,gI),(149,gI),(87,gI),(13,gI),(141,gI),(69,gI),(158,gI),(52,gI),(95,gI)]
theorem uw:(nu.map (·.1)).Nodup:=by decide
def Dw:lZ (cx nu 6):=.cons (sD (yR (pM (qc 14 (nI (jC (lX 6<|1188997) aI (aq<|lX 1<|1189448) (P<|152240161)<|P<|152191010) y)<|1188613) (qc 14 (pM (jC (lX 6<|1190597) (aq<|lX 1<|1190984) aI (P<|152444986)<|P<|152395835) (BS af<|1191748) y)<|1190213) y) 0) 4) iO
def Dx:lZ (cx nu 6):=.cons (j6 9 165 (P<|151109653) (P<|151175217) (P<|151109682)<|P<|151060530) iO
def wZ:lZ (cx nu 6):=.cons (iY (tI (o0 (lX 6<|1171909)<|F5 15<|1172296) (mj 0<|1173121) y) Dx iO<|P<|149979314) Dw
def w0:lZ (cx nu 6):=.cons (nR (nM 6<|1163525) (qc 13 (sI (lX 0<|1165382) (qc 14 (sI (lX 4<|1166279) (BS ag<|1166853) (BS ag<|1167301) y)<|1165893) (oR (lX 1<|1167816)<|lX 2<|1168521) y)<|1164052) y) wZ
def Dy:lZ (cx nu 6):=.cons (nR (zN (lX 4<|1155591)<|o0 (F5 11<|1156108)<|lX 5<|1156932) (rF (lX 0<|1157510) 25 (nI (mj 3<|1158273) y) 5 y) y) iO
def Dz:lZ (cx nu 6):=.cons (j4 (nM 5<|1147396) 12 (nI (lX 3<|1148292) y) (P<|146931733) (P<|146931739) Dy<|P<|146833588) w0
def w5:lZ (cx nu 6):=.cons (nR (nM 4<|1138951) (vg (xK<|nI (mj 0<|1139649) y)<|qH .len 10 (nI (F5 11<|1140236) y) (1139971)) y) Dz
def DA:lZ (cx nu 6):=.cons (j6 9 168 (P<|144818197) (P<|144883775) (P<|144818240)<|P<|144769088) iO
def DB:lZ (cx nu 6):=.cons (iY (BT .Or (xY (lX 1<|1122760) (F5 7<|1123469) y) (xY (lX 2<|1124553) (F5 8<|1125326) y) y y) DA iO<|P<|143687872) w5
def B3:lZ (cx nu 6):=.cons (j5 uw [(1,(P<|142639116)),(2,(P<|142721047)),(3,(P<|142811165))] 0 (P<|142639133) (sI (oR (mj 257<|1116227)<|rF (lX 0<|1116614) 25 (nI (mj 5<|1117377) y) 5 y) (oR (mj 1<|1117633)<|rF (lX 0<|1117894) 25 (nI (mj 5<|1118657) y) 5 y) (oR (mj 4<|1118913)<|rF (lX 0<|1119174) 25 (nI (mj 4<|1119937) y) 5 y) y) 0 (P<|142868574) (P<|142639198) y y) DB
def B4:lZ (cx nu 6):=B3
theorem B5:oK 177 nu 1 [] B4.pP:=⟨("$"),λ_ _=>("$")⟩
def mP:List (Nat×bu):=[(44,lO),(80,lO),(5,lO),(86,lO),(107,gI),(116,gI),(154,gI),(156,gI)]
theorem zv:(mP.map (·.1)).Nodup:=by decide
def B6:lZ (cx mP 5):=.cons (nR (xq (lX 0<|1303044) 64 6) (jY<|P<|166895641) y) iO
def B7:lZ (cx mP 5):=.cons (nR (xq (lX 0<|1294852) 118 10) (qc 7 ji<|1295953) y) B6
def vE:lZ (cx mP 5):=.cons (nR (xq (lX 0<|1286660) 93 8) (qc 6 ji<|1287631) y) B7
def B8:lZ (cx mP 5):=.cons (nR (xq (lX 0<|1278468) 84 7) (mj 0<|1279361) y) vE
def B9:lZ (cx mP 5):=.cons (nR (xq (lX 0<|1270276) 103 9) (jY<|P<|162725916) y) B8
def Ca:lZ (cx mP 5):=.cons (nR (xq (lX 0<|1262084) 94 8) (jY<|P<|161669147) y) B9
def Cb:lZ (cx mP 5):=.cons (nR (xq (lX 0<|1253892) 91 8) (BS ag<|1254853) y) Ca
def Cc:lZ (cx mP 5):=.cons (nR (xq (lX 0<|1245700) 92 8) (BS ag<|1246661) y) Cb
def vF:lZ (cx mP 5):=.cons (nR (xq (lX 0<|1237508) 89 8) (SE.ba 5 (P<|158523424)<|P<|158523426) y) Cc
def Au:lZ (cx mP 5):=.cons (nR (xq (lX 0<|1229316) 86 7) (lX 3<|1230214) y) vF
def Av:lZ (cx mP 5):=.cons (nR (xq (lX 0<|1221124) 81 7) (qc 4 (pM (lX 1<|1222662) (lX 2<|1223170) y)<|1222025) y) Au
def ux:lZ (cx mP 5):=Av
theorem Aw:oK 192 mP 4 [] ux.pP:=⟨("$"),λ_ _ _ _ _=>("$")⟩
def nJ:List (Nat×bu):=[(44,lO),(41,lO),(13,gI)]
theorem zw:(nJ.map (·.1)).Nodup:=by decide
def Cd:lZ (cx nJ 8):=.cons (sC (rF (lX 0<|1344516) 124 ji 10 y) y) iO
def Ce:lZ (cx nJ 8):=.cons (sC (rF (lX 0<|1360900) 140 (nI (lX 1<|1361988) y) 12 y) y) iO
def Cg:lZ (cx nJ 8):=.cons (nR (xq (lX 0<|1377284) 91 8) (BS af<|1378244) y) iO
def Ch:lZ (cx nJ 8):=.cons (sC (rF (lX 0<|1393668) 136 ji 12 y) y) iO
def Ci:lZ (cx nJ 8):=.cons (iY (qZ (lX 0<|1369156) 92 8 y) Cg Ch<|P<|175210914) iO
def Cj:lZ (cx nJ 8):=.cons (iY (xY (qZ (lX 0<|1352772) 84 7 y) (mj 0<|1353665) y) Ce Ci<|P<|173114018) iO
def Ck:lZ (cx nJ 8):=.cons (iY (Mb (qZ (lX 0<|1336260) 94 8 y) .IsNot (jY<|P<|171204647) y) Cd Cj<|P<|171017122) iO
def Cl:lZ (cx nJ 8):=.cons (kQ (kZ .And (kL (qZ (lX 0<|1328260) 91 8 y)<|P<|169984030) (BT .Or (Mb (lX 1<|1329412) .Is (jY<|P<|170229808) y) (Di (qH .len 2 (nI (qZ (lX 0<|1330692) 89 8 y) y) (1330435)) (lX 1<|1331716) y) y y) (P<|169984077) y y) Ck<|P<|169935906) iO
def Ax:lZ (cx nJ 8):=Cl
theorem Ay:oK 200 nJ 1 (Ih G.K 193 0) Ax.pP:=⟨("$"),λ_ _=>("$")⟩
def mF:List (Nat×bu):=[(44,lO),(33,lO),(138,gI),(145,gI),(87,gI)]
theorem tj:(mF.map (·.1)).Nodup:=by decide
def uP:lZ (cx mF 7):=.cons (sC (rF (lX 0<|1442564) 143 ji 13 y) y) iO
def uQ:lZ (cx mF 7):=.cons (nR (El (iV (xq (lX 0<|1475332) 94 8) (iV (xq (lX 0<|1476228) 103 9) jk y) y) 0) (qZ (lX 0<|1477252) 64 6 y) y) iO
def uR:lZ (cx mF 7):=.cons (nR (xq (lX 0<|1467396) 64 6) (qc 2 ji<|1468235) y) iO
def uS:lZ (cx mF 7):=.cons (iY (Mb (qZ (lX 0<|1459140) 64 6 y) .Is (jY<|P<|186884129) y) uR iO<|P<|186745002) uQ
def uT:lZ (cx mF 7):=.cons (nR (El (iV (xq (lX 0<|1491716) 94 8) (iV (xq (lX 0<|1492612) 103 9) jk y) y) 0) (qc 3 (nI (qZ (lX 0<|1494468) 81 7 y) y)<|1493644) y) iO
def uU:lZ (cx mF 7):=.cons (j6 4 161 (P<|193085465) (P<|193151026) (P<|193085491)<|P<|193036339) iO
def uV:lZ (cx mF 7):=.cons (iY (tI (lX 1<|1483588) (mj 2<|1484097) y) uT uU<|P<|189858227) iO
def uW:lZ (cx mF 7):=.cons (iY (tI (lX 1<|1450820) (mj 1<|1451329) y) uS uV<|P<|185664435) iO
def q0:lZ (cx mF 7):=.cons (iY (tI (lX 1<|1434308) (mj 0<|1434817) y) uP uW<|P<|183567539) iO
def qW:lZ (cx mF 7):=.cons (nR (nM 1<|1425924) (rF (qZ (lX 0<|1426372) 81 7 y) 25 (nI (mj 2<|1427457) y) 5 y) y) q0
def tY:lZ (cx mF 7):=.cons (nR (xq (lX 0<|1417732) 92 8) (tI (rF (qZ (lX 0<|1418692) 81 7 y) 25 (nI (mj 1<|1419777) y) 5 y) (mj 1<|1420161) y) y) qW
def tZ:lZ (cx mF 7):=tY
theorem t5:oK 207 mF 1 [] tZ.pP:=⟨("$"),λ_ _=>("$")⟩
def nh:List (Nat×bu):=[(44,lO),(32,lO),(38,lO),(85,lO),(87,gI)]
theorem qE:(nh.map (·.1)).Nodup:=by decide
def ua:lZ (cx nh 4):=.cons (nR (xq (lX 0<|1565188) 84 7) (lX 2<|1566084) y) iO
def ub:lZ (cx nh 4):=.cons (j6 4 169 (P<|199376921) (P<|199442504) (P<|199376969)<|P<|199327817) iO
def uc:lZ (cx nh 4):=.cons (iY (RR (oR (lX 2<|1548996)<|lX 3<|1549446) (mj 65535<|1550085) y) ub iO<|P<|198246601) ua
def ud:lZ (cx nh 4):=.cons (j5 qE [(2,(P<|197197836)),(3,(P<|197246996))] 0 (P<|197197844) (pM (oR (o0 (lX 1<|1541636)<|mj 0<|1541953)<|vg (o0 (lX 1<|1542276)<|mj 1<|1542593)<|mj 256<|1542915) (oR (o0 (lX 1<|1543236)<|mj 2<|1543553)<|vg (o0 (lX 1<|1543876)<|mj 3<|1544193)<|mj 256<|1544515) y) 0 (P<|197320777) (P<|197197897) y y) uc
def ue:lZ (cx nh 4):=.cons (nR (nM 1<|1532420) (rF (qZ (lX 0<|1532868) 81 7 y) 20 (nI (mj 4<|1533889) y) 4 y) y) ud
def tu:lZ (cx nh 4):=ue
theorem tz:oK 214 nh 1 [] tu.pP:=⟨("$"),λ_ _=>("$")⟩
def nj:List (Nat×bu):=[(44,lO),(41,lO),(38,lO),(16,gI),(13,gI)]
theorem tA:(nj.map (·.1)).Nodup:=by decide
def uX:lZ (cx nj 4):=.cons (kW (lX 0<|1622532) 84 (P<|207683603) .Sub (lX 2<|1623492) (P<|207683611)) iO
def uY:lZ (cx nj 4):=.cons (sC (rF (qZ (lX 0<|1614340) 89 8 y) 77 (nI (rF (qZ (lX 0<|1615620) 81 7 y) 20 (nI (lX 2<|1616644) y) 4 y) y) 7 y) y) uX
def uZ:lZ (cx nj 4):=.cons (nR (nM 2<|1606404) (qH .min 3 (pM (lX 2<|1607108) (vf (lX 1<|1607492)<|qH .len 4 (nI (qZ (lX 0<|1608196) 89 8 y) y) (1607939)) y) (1606851)) y) iO
def u5:lZ (cx nj 4):=.cons (iY (Mb (lX 1<|1598148) .IsNot (jY<|P<|204660763) y) uZ iO<|P<|204538038) uY
def u6:lZ (cx nj 4):=.cons (nR (nM 2<|1589764) (qZ (lX 0<|1590212) 84 7 y) y) u5
def uf:lZ (cx nj 4):=u6
theorem ug:oK 221 nj 2 [] uf.pP:=⟨("$"),λ_ _ _=>("$")⟩
def mX:List (Nat×bu):=[(44,lO),(45,lO),(95,gI)]
theorem u7:(mX.map (·.1)).Nodup:=by decide
def wD:lZ (cx mX 6):=.cons (sC (rF (qZ (lX 0<|1663748) 89 8 y) 73 (nI (lX 1<|1665028) y) 7 y) y) iO
def wE:lZ (cx mX 6):=.cons (nR (xq (lX 0<|1688324) 103 9) (jY<|P<|216236064) y) iO
def wF:lZ (cx mX 6):=.cons (nR (xq (lX 0<|1680132) 94 8) (jY<|P<|215179295) y) wE
def wG:lZ (cx mX 6):=.cons (sC (rF (lX 0<|1704708) 123 (nI (vf (vf (lX 1<|1705668)<|F5 2<|1706120)<|mj 1<|1706817) y) 10 y) y) iO
def wH:lZ (cx mX 6):=.cons (iY (tI (lX 1<|1672004) (F5 2<|1672520) y) wF wG<|P<|213975599) iO
def wI:lZ (cx mX 6):=.cons (iY (Di (lX 1<|1655492) (F5 2<|1655944) y) wD wH<|P<|211878703) iO
def wJ:lZ (cx mX 6):=.cons (nR (nM 1<|1647108) (rF (qZ (lX 0<|1647556) 94 8 y) 121 (nI (qZ (lX 0<|1649028) 81 7 y) y) 10 y) y) wI
def vG:lZ (cx mX 6):=wJ
theorem vH:oK 228 mX 1 [] vG.pP:=⟨("$"),λ_ _=>("$")⟩
def mw:List (Nat×bu):=[(44,lO),(79,lO),(67,lO),(40,lO),(78,lO),(45,lO),(24,lO),(56,lO),(48,lO),(13,gI),(87,gI),(69,gI)]
theorem u8:(mw.map (·.1)).Nodup:=by decide
def wK:lZ (cx mw 5):=.cons (sC (rF (qZ (lX 0<|1835780) 89 8 y) 73 (nI (o0 (qZ (lX 0<|1837060) 89 8 y)<|lX 8<|1837892) y) 7 y) y) iO
def wL:lZ (cx mw 5):=.cons (j4 (nM 8<|1827588) 11 (pM (lX 7<|1828485) (oR (lX 7<|1828933)<|lX 4<|1829446) y) (P<|233996313) (P<|233996336) wK<|P<|233898163) iO
def rK:lZ (cx mw 5):=.cons (nR (nM 7<|1819141) (vf (qH .len 9 (nI (qZ (lX 0<|1819908) 89 8 y) y) (1819651))<|lX 6<|1820932) y) wL
def wM:lZ (cx mw 5):=.cons (j6 10 167 (P<|231882777) (P<|231948343) (P<|231882808)<|P<|231833656) iO
def wN:lZ (cx mw 5):=.cons (iY (BT .Or (xY (lX 6<|1802948) (qH .len 9 (nI (qZ (lX 0<|1803652) 89 8 y) y) (1803395)) y) (xY (lX 6<|1804740) (qZ (lX 0<|1805188) 86 7 y) y) y y) wM iO<|P<|230752440) rK
def wO:lZ (cx mw 5):=.cons (nR (nM 6<|1794564) (oR (lX 2<|1795013)<|rF (qZ (lX 0<|1795524) 81 7 y) 25 (nI (lX 3<|1796612) y) 5 y) y) wN
def rM:lZ (cx mw 5):=.cons (nR (El (iV (nM 2<|1786373) (iV (nM 3<|1786820) jk y) y) 0) (o0 (qZ (lX 0<|1787268) 118 10 y)<|lX 5<|1788228) y) wO
def wP:lZ (cx mw 5):=.cons (j6 10 166 (P<|227688473) (P<|227754037) (P<|227688502)<|P<|227639350) iO
def wQ:lZ (cx mw 5):=.cons (iY (Mb (lX 5<|1770180) .GtE (qH .len 9 (nI (qZ (lX 0<|1770948) 118 10 y) y) (1770691)) y) wP iO<|P<|226558134) rM
def rB:lZ (cx mw 5):=.cons (nR (nM 5<|1761796) (rF (qZ (lX 0<|1762244) 103 9 y) 121 (nI (qZ (lX 0<|1763780) 81 7 y) y) 10 y) y) wQ
def vI:lZ (cx mw 5):=.cons (nR (nM 4<|1753606) (oR (lX 2<|1754181)<|rF (qZ (lX 0<|1754692) 81 7 y) 25 (nI (lX 3<|1755780) y) 5 y) y) rB
def vJ:lZ (cx mw 5):=.cons (nR (El (iV (nM 2<|1745413) (iV (nM 3<|1745860) jk y) y) 0) (o0 (qZ (lX 0<|1746308) 93 8 y)<|lX 1<|1747142) y) vI
def vK:lZ (cx mw 5):=.cons (j6 10 164 (P<|222445593) (P<|222511155) (P<|222445620)<|P<|222396468) iO
def vL:lZ (cx mw 5):=.cons (iY (Mb (lX 1<|1729222) .GtE (qH .len 9 (nI (qZ (lX 0<|1730116) 93 8 y) y) (1729859)) y) vK iO<|P<|221315252) vJ
def vM:lZ (cx mw 5):=vL
theorem vN:oK 235 mw 2 [] vM.pP:=⟨("$"),λ_ _ _=>("$")⟩
def ri:List (Nat×bu):=[(80,lO),(5,lO),(86,lO),(50,lO),(97,gI),(58,gI)]
theorem IY:(ri.map (·.1)).Nodup:=by decide
def Pa:lZ (cx ri 9):=.cons (sD (yR (pM (qH .bytes 5 (nI (qZ (lX 3<|1868932) 89 8 y) y) (1868549)) (SE.pr (qZ (lX 3<|1869892) 81 7 y) 68 (P<|239345714) y) y) 0) 4) iO
def Pb:lZ (cx ri 9):=.cons (sC (rF (lX 3<|1859844) 51 ji 5 y) y) Pa
def Pc:lZ (cx ri 9):=.cons (nR (nM 3<|1851652) (qc 4 (sI (lX 0<|1852678) (lX 1<|1853186) (lX 2<|1853446) y)<|1852104) y) Pb
def Mc:lZ (cx ri 9):=Pc
theorem Md:oK 250 ri 2 (Ih G.K 243 1) Mc.pP:=⟨("$"),λ_ _ _=>("$")⟩
def oH:List (Nat×bu):=[(3,lO),(38,lO),(65,lO),(2,lO),(69,gI),(13,gI)]
theorem GU:(oH.map (·.1)).Nodup:=by decide
def Me:lZ (cx oH 1):=.cons (sD (lX 2<|1950405) 4) iO
def Mf:lZ (cx oH 1):=.cons (nR (zN (lX 0<|1942017)<|rh 5<|1942148) (oR (o0 (lX 0<|1942657)<|rh 5<|1942788)<|mj 1<|1943297) y) iO
def Mg:lZ (cx oH 1):=.cons (nR (nM 2<|1933829) (oR (lX 2<|1934341)<|vg (wn (xJ (o0 (o0 (lX 0<|1934849)<|rh 42<|1934982)<|xJ (o0 (lX 0<|1935489)<|rh 5<|1935620)<|mj 8<|1936193)<|jh (mj 2<|1936577) .Pow (wn (o0 (lX 0<|1936961)<|rh 5<|1937092)<|mj 8<|1937601) (P<|247881797))<|mj 2<|1937921)<|YL (mj 2<|1938177)<|lX 3<|1938497) y) Mf
def Mh:lZ (cx oH 1):=.cons (sD (mj 0<|1926337) 12) iO
def Mi:lZ (cx oH 1):=.cons (nR (zN (lX 0<|1917697)<|rh 7<|1917829) (BS af<|1918404) y) Mh
def Mj:lZ (cx oH 1):=.cons (iY (Mb (o0 (lX 0<|1909441)<|rh 5<|1909572) .GtE (vg (mj 8<|1910145)<|qH .len 5 (nI (o0 (lX 0<|1910657)<|rh 42<|1910790) y) (1910403)) y) Mi iO<|P<|244384020) Mg
def Mk:lZ (cx oH 1):=.cons (j4 (nM 3<|1901057) 4 (nI (lX 1<|1901764) y) (P<|243376146) (P<|243376152) Mj<|P<|243303069) Me
def Ml:lZ (cx oH 1):=.cons (nR (nM 2<|1892613) (mj 0<|1893121) y) Mk
def IZ:lZ (cx oH 1):=Ml
theorem I0:oK 257 oH 2 [] IZ.pP:=⟨("$"),λ_ _ _=>("$")⟩
def pO:List (Nat×bu):=[(35,lO),(38,lO),(46,lO),(83,gI),(119,gI)]
theorem GV:(pO.map (·.1)).Nodup:=by decide
def Mm:lZ (cx pO 1):=.cons (sD (yR (pM (lX 1<|1999620) (kI (CI.li (SE.so 3 (nI (kI (CI.en 4 (nI (lX 0<|2003908) y) (P<|256417870)<|P<|256417876) [(500,lO),(2,lO),(46,lO)] (El (iV (nM 1<|2002561) (iV (nM 2<|2002756) jk y) y) 0) (CT.one<|xY (lX 2<|2004484) (mj 0<|2004929) y) (yR (pM (lX 2<|2001732) (lX 1<|2002113) y) 0) ⟨.function,qj [(500,lO),(2,lO),(46,lO)],ag,ag,[]⟩ (P<|256204897) rfl rfl rfl ("")) y) (P<|256147498)<|P<|256147554) y) [(500,lO),(46,lO),(2,lO)] (El (iV (nM 1<|2000452) (iV (nM 2<|2000833) jk y) y) 0) CT.no (lX 2<|2000065) ⟨.function,qj [(500,lO),(46,lO),(2,lO)],ag,ag,[]⟩ (P<|256000099) rfl rfl rfl ("")) y) 0) 4) iO
def Mn:lZ (cx pO 1):=.cons (nR (zN (lX 1<|1990916)<|mj 0<|1991233) (mj 0<|1991553) y) Mm
def Mo:lZ (cx pO 1):=.cons (nR (zN (lX 1<|1982980)<|lX 2<|1983300) (oR (o0 (lX 1<|1983812)<|lX 2<|1984132)<|mj 1<|1984641) y) iO
def Mp:lZ (cx pO 1):=.cons (kR (nM 2<|1974788) (lX 0<|1975300) Mo (P<|252739747) y) Mn
def Mq:lZ (cx pO 1):=.cons (nR (nM 1<|1966340) (vg (xK<|nI (mj 0<|1966849) y)<|mj 16<|1967170) y) Mp
def I1:lZ (cx pO 1):=Mq
theorem I2:oK 262 pO 1 [] I1.pP:=⟨("$"),λ_ _=>("$")⟩
def oE:List (Nat×bu):=[(26,lO),(102,lO),(34,lO),(46,lO),(69,gI),(13,gI)]
theorem DC:(oE.map (·.1)).Nodup:=by decide
def GW:lZ (cx oE 1):=.cons (sD (kZ .Or (tI (lX 2<|2056900) (mj 0<|2057409) y) (BT .And (lX 1<|2057800) (tI (qH .len 5 (nI (o0 (lX 0<|2058884)<|mj 1<|2059201) y) (2058627)) (o0 (o0 (lX 0<|2059652)<|mj 0<|2059969)<|mj 1<|2060161) y) y y) (P<|263282753) y y) 4) iO
def GX:lZ (cx oE 1):=.cons (sD (BS ag<|2049221) 12) iO
def GY:lZ (cx oE 1):=.cons (iY (Di (lX 2<|2040516) (mj 0<|2040961) y) GX iO<|P<|261161112) iO
def GZ:lZ (cx oE 1):=.cons (nR (nM 2<|2032132) (vf (vg (mj 2<|2032577)<|lX 2<|2032836)<|o0 (o0 (lX 0<|2033284)<|mj 0<|2033601)<|lX 3<|2033796) y) GY
def G1:lZ (cx oE 1):=.cons (j4 (nM 3<|2023940) 4 (pM (mj 1<|2024833) (mj 16<|2025026) y) (P<|259129365) (P<|259129372) GZ<|P<|259031448) GW
def G2:lZ (cx oE 1):=.cons (nR (nM 2<|2015492) (mj 1<|2015937) y) G1
def Fh:lZ (cx oE 1):=G2
theorem Fi:oK 269 oE 2 [] Fh.pP:=⟨("$"),λ_ _ _=>("$")⟩
def nY:List (Nat×bu):=[(3,lO),(26,lO),(29,lO),(63,lO),(48,lO),(46,lO),(69,gI),(115,gI)]
theorem zP:(nY.map (·.1)).Nodup:=by decide
def Mr:lZ (cx nY 2):=.cons (sD (mj 0<|2147009) 4) iO
def Ms:lZ (cx nY 2):=.cons (nR (zN (lX 0<|2138369)<|rh 7<|2138501) (BS af<|2139076) y) Mr
def Mt:lZ (cx nY 2):=.cons (j5 zP [(4,(P<|272695308)),(3,(P<|272744467))] 0 (P<|272695315) (pM (oR (lX 4<|2131396)<|o0 (o0 (lX 1<|2131844)<|mj 0<|2132161)<|lX 5<|2132356) (jh (mj 2<|2132801) .Mult (oR (lX 3<|2133125)<|o0 (o0 (lX 1<|2133636)<|mj 0<|2133953)<|lX 5<|2134148) (P<|272998472)) y) 0 (P<|272810057) (P<|272695369) y y) iO
def Mu:lZ (cx nY 2):=.cons (sD (o0 (o0 (lX 1<|2122948)<|mj 1<|2123265)<|vf (oR (lX 4<|2123460)<|lX 2<|2123908)<|lX 3<|2124357) 12) iO
def Mv:lZ (cx nY 2):=.cons (iY (Di (vf (lX 2<|2114244)<|lX 3<|2114693) (o0 (o0 (lX 1<|2115204)<|mj 0<|2115521)<|lX 5<|2115716) y) Mu iO<|P<|270598319) Mt
def Mw:lZ (cx nY 2):=.cons (sD (mj 0<|2106561) 12) iO
def Mx:lZ (cx nY 2):=.cons (iY (o0 (lX 0<|2097857)<|rh 7<|2097989) Mw iO<|P<|268501140) Mv
def My:lZ (cx nY 2):=.cons (nR (nM 2<|2089476) (oR (vg (mj 2<|2089921)<|lX 2<|2090180)<|qc 7 (pM (lX 0<|2091265) (mj 1<|2091457) y)<|2090633) y) Mx
def Mz:lZ (cx nY 2):=.cons (j4 (nM 5<|2081284) 6 (pM (mj 1<|2082177) (mj 16<|2082370) y) (P<|266469397) (P<|266469404) My<|P<|266371913) Ms
def I3:lZ (cx nY 2):=.cons (kY (El (iV (nM 2<|2072836) (iV (nM 3<|2073221) (iV (nM 4<|2073668) jk y) y) y) 0) (yR (sI (mj 0<|2074177) (mj 0<|2074369) (mj 0<|2074561) y) 0) (P<|265322529) y (λlJ _ _=>E7 rfl lJ) y) Mz
def I4:lZ (cx nY 2):=I3
theorem I5:oK 276 nY 2 [] I4.pP:=⟨("$"),λ_ _ _=>("$")⟩
def qg:List (Nat×bu):=[(3,lO),(38,lO),(65,lO),(2,lO),(69,gI),(115,gI)]
theorem G3:(qg.map (·.1)).Nodup:=by decide
def MA:lZ (cx qg 2):=.cons (sD (lX 2<|2187973) 4) iO
def MB:lZ (cx qg 2):=.cons (nR (nM 2<|2179589) (oR (vg (mj 2<|2180097)<|lX 2<|2180357)<|qc 5 (pM (lX 0<|2181505) (mj 1<|2181697) y)<|2180873) y) iO
def MC:lZ (cx qg 2):=.cons (j4 (nM 3<|2171393) 4 (nI (lX 1<|2172100) y) (P<|277979154) (P<|277979160) MB<|P<|277905579) MA
def MD:lZ (cx qg 2):=.cons (nR (nM 2<|2162949) (mj 0<|2163457) y) MC
def I6:lZ (cx qg 2):=MD
theorem I7:oK 283 qg 2 [] I6.pP:=⟨("$"),λ_ _ _=>("$")⟩
def ni:List (Nat×bu):=[(3,lO),(29,lO),(111,gI),(115,gI)]
theorem ym:(ni.map (·.1)).Nodup:=by decide
def Az:lZ (cx ni 3):=.cons (sD (vf (oR (vg (mj 2<|2269889)<|lX 1<|2270148)<|qc 3 (pM (lX 0<|2271233) (mj 1<|2271425) y)<|2270601)<|mj 256<|2271747) 4) iO
def AA:lZ (cx ni 3):=.cons (sD (oR (lX 1<|2261956)<|mj 88<|2262402) 8) iO
def AB:lZ (cx ni 3):=.cons (iY (Di (lX 1<|2253252) (mj 200<|2253699) y) AA iO<|P<|288391320) Az
def AC:lZ (cx ni 3):=.cons (sD (vf (lX 1<|2245572)<|mj 48<|2246018) 8) iO
def AD:lZ (cx ni 3):=.cons (iY (Di (lX 1<|2236868) (mj 192<|2237315) y) AC iO<|P<|286294168) AB
def AE:lZ (cx ni 3):=.cons (nR (nM 1<|2228484) (oR (vg (mj 2<|2228929)<|lX 1<|2229188)<|qc 3 (pM (lX 0<|2230273) (mj 1<|2230465) y)<|2229641) y) AD
def AF:lZ (cx ni 3):=.cons (sD (oR (mj 256<|2220995)<|lX 1<|2221380) 8) iO
def AG:lZ (cx ni 3):=.cons (iY (Di (lX 1<|2212292) (mj 24<|2212738) y) AF iO<|P<|283148441) AE
def AI:lZ (cx ni 3):=.cons (nR (nM 1<|2203908) (qc 2 (pM (lX 0<|2204993) (mj 7<|2205185) y)<|2204361) y) AG
def zx:lZ (cx ni 3):=AI
theorem zy:oK 290 ni 1 [] zx.pP:=⟨("$"),λ_ _=>("$")⟩
def qQ:List (Nat×bu):=[(2,lO)]
theorem G4:(qQ.map (·.1)).Nodup:=by decide
def ME:lZ (cx qQ 1):=.cons (sD (yR (pM (oR (jh (oR (mj 4<|2302785)<|wn (lX 0<|2303041)<|mj 4<|2303297) .Mult (jh (mj 2<|2303617) .Pow (vf (xJ (lX 0<|2304001)<|mj 4<|2304321)<|mj 1<|2304577) (P<|294862891)) (P<|294748203))<|mj 3<|2304897) (vf (xJ (lX 0<|2305089)<|mj 4<|2305409)<|mj 1<|2305665) y) 0) 4) iO
def MF:lZ (cx qQ 1):=.cons (sD (kg (tI (lX 0<|2295489) (mj 28<|2295810) y) (yR (pM (mj 258<|2294787) (mj 0<|2295105) y) 0) (yR (pM (oR (mj 3<|2296385)<|lX 0<|2296641) (mj 0<|2296833) y) 0)<|P<|293724210) 8) iO
def MG:lZ (cx qQ 1):=.cons (iY (BT .Or (Di (lX 0<|2286017) (mj 4<|2286273) y) (tI (lX 0<|2286593) (mj 28<|2286914) y) y y) MF iO<|P<|292585650) ME
def I8:lZ (cx qQ 1):=MG
theorem I9:oK 297 qQ 1 [] I8.pP:=⟨("$"),λ_ _=>("$")⟩
def uh:List (Nat×bu):=[(2,lO)]
theorem Ja:(uh.map (·.1)).Nodup:=by decide
def Pe:lZ (cx uh 1):=.cons (sD (kg (Di (lX 0<|2319937) (mj 2<|2320193) y) (yR (pM (oR (mj 1<|2319105)<|lX 0<|2319361) (mj 0<|2319553) y) 0) (yR (pM (oR (jh (oR (mj 2<|2320769)<|wn (lX 0<|2321025)<|mj 2<|2321281) .Mult (jh (mj 2<|2321601) .Pow (vf (xJ (lX 0<|2321985)<|mj 2<|2322305)<|mj 1<|2322561) (P<|297164868)) (P<|297050180))<|mj 1<|2322881) (vf (xJ (lX 0<|2323073)<|mj 2<|2323393)<|mj 1<|2323649) y) 0)<|P<|296837205) 4) iO
def MH:lZ (cx uh 1):=Pe
theorem MJ:oK 304 uh 1 [] MH.pP:=⟨("$"),λ_ _=>("$")⟩
def mR:List (Nat×bu):=[(3,lO),(18,lO),(57,lO),(45,lO),(67,lO),(40,lO),(46,lO),(24,lO),(2,lO),(13,gI),(152,gI),(113,gI),(114,gI),(115,gI),(111,gI),(100,gI),(15,gI),(69,gI)]
theorem G5:(mR.map (·.1)).Nodup:=by decide
def Em:lZ (cx mR 4):=.cons (nR (zN (lX 0<|2523393)<|rh 9<|2523525) (BS af<|2524100) y) iO
def MK:lZ (cx mR 4):=.cons (sC (rF (lX 1<|2376451) 73 (nI (lX 3<|2377156) y) 7 y) y) iO
def ML:lZ (cx mR 4):=.cons (nR (zN (lX 0<|2392833)<|rh 7<|2392965) (BS af<|2393540) y) iO
def MM:lZ (cx mR 4):=.cons (sC (rF (lX 1<|2515971) 73 (nI (o0 (lX 1<|2516675)<|vf (qH .len 9 (nI (lX 1<|2517187) y) (2516931))<|lX 7<|2517636) y) 7 y) y) iO
def MN:lZ (cx mR 4):=.cons (j4 (nM 8<|2507777) 17 (nI (lX 6<|2508484) y) (P<|321036314) (P<|321036320) MM<|P<|320962736) iO
def En:lZ (cx mR 4):=.cons (nR (zN (lX 0<|2499329)<|rh 24<|2499462) (qH .max 16 (pM (o0 (lX 0<|2500353)<|rh 24<|2500486) (lX 7<|2501060) y) (2500099)) y) MN
def MO:lZ (cx mR 4):=.cons (kS<|P<|318898198) iO
def MP:lZ (cx mR 4):=.cons (nR (zN (lX 0<|2483201)<|rh 7<|2483333) (BS af<|2483908) y) MO
def MQ:lZ (cx mR 4):=.cons (iY (BT .Or (o0 (lX 0<|2474945)<|rh 7<|2475077) (xY (lX 7<|2475716) (qH .len 9 (nI (lX 1<|2476419) y) (2476163)) y) y y) MP iO<|P<|316768534) En
def Jb:lZ (cx mR 4):=.cons (nR (nM 7<|2466564) (oR (lX 4<|2467013)<|qc 13 (pM (lX 0<|2468161) (lX 5<|2468356) y)<|2467529) y) MQ
def Cm:lZ (cx mR 4):=.cons (nR (El (iV (nM 4<|2458373) (iV (nM 5<|2458820) jk y) y) 0) (qc 15 (nI (lX 3<|2459844) y)<|2459272) y) Jb
def Jc:lZ (cx mR 4):=.cons (kS<|P<|313655318) iO
def Jd:lZ (cx mR 4):=.cons (nR (zN (lX 0<|2442241)<|rh 7<|2442373) (BS af<|2442948) y) Jc
def Je:lZ (cx mR 4):=.cons (iY (BT .Or (o0 (lX 0<|2433985)<|rh 7<|2434117) (xY (lX 3<|2434756) (mj 29<|2435202) y) y y) Jd iO<|P<|311525654) Cm
def Jf:lZ (cx mR 4):=.cons (nR (nM 3<|2425604) (kg (Mb (lX 2<|2427269) .Is (jY<|P<|310763571) y) (qc 14 (pM (lX 0<|2426689) (mj 5<|2426881) y)<|2426057) (qc 11 (pM (lX 0<|2429121) (o0 (lX 2<|2429317)<|mj 1<|2429697) y)<|2428489)<|P<|310534223) y) Je
def Jg:lZ (cx mR 4):=.cons (nR (nM 6<|2417412) (oR (lX 4<|2417861)<|qc 13 (pM (lX 0<|2419009) (lX 5<|2419204) y)<|2418377) y) Jf
def Cn:lZ (cx mR 4):=.cons (nR (El (iV (nM 4<|2409221) (iV (nM 5<|2409668) jk y) y) 0) (qc 12 (nI (vf (lX 3<|2410756)<|mj 257<|2411203) y)<|2410121) y) Jg
def Jh:lZ (cx mR 4):=.cons (iY (xY (lX 3<|2384708) (mj 285<|2385155) y) ML Cn<|P<|305203248) iO
def Ji:lZ (cx mR 4):=.cons (iY (Di (lX 3<|2368196) (mj 256<|2368643) y) MK Jh<|P<|303106352) iO
def Jj:lZ (cx mR 4):=.cons (kS<|P<|302088210) iO
def Jk:lZ (cx mR 4):=.cons (iY (BT .Or (o0 (lX 0<|2351809)<|rh 7<|2351941) (tI (lX 3<|2352580) (mj 256<|2353091) y) y y) Jj iO<|P<|301006994) Ji
def Jl:lZ (cx mR 4):=.cons (nR (nM 3<|2343428) (kg (Mb (lX 2<|2345285) .Is (jY<|P<|300269618) y) (qc 10 (nI (lX 0<|2344897) y)<|2343887) (qc 11 (pM (lX 0<|2347137) (o0 (lX 2<|2347333)<|mj 0<|2347713) y)<|2346505)<|P<|300015694) y) Jk
def Jm:lZ (cx mR 4):=.cons (kQ (BT .And (kL (o0 (lX 0<|2335617)<|rh 7<|2335749)<|P<|298926102) (Mb (qH .len 9 (nI (lX 1<|2336707) y) (2336451)) .LtE (mj 400<|2337219) y) y y) Jl<|P<|298879792) Em
def Jn:lZ (cx mR 4):=Jm
theorem Jo:oK 311 mR 3 [] Jn.pP:=⟨("$"),λ_ _ _ _=>("$")⟩
def mD:List (Nat×bu):=[(3,lO),(14,lO),(30,lO),(47,lO),(35,lO),(2,lO),(26,lO),(45,lO),(27,lO),(115,gI),(69,gI),(110,gI),(133,gI),(13,gI),(113,gI)]
theorem yo:(mD.map (·.1)).Nodup:=by decide
def Jp:lZ (cx mD 3):=.cons (sD (lX 8<|2769604) 4) iO
def Jq:lZ (cx mD 3):=.cons (nR (zN (lX 0<|2760961)<|rh 7<|2761093) (BT .Or (kL (qc 12 (pM (o0 (lX 8<|2762692)<|mj 0<|2763009) (BS af<|2763268) y)<|2761931)<|P<|353493037) (kL (qc 12 (pM (o0 (lX 8<|2764868)<|mj 1<|2765185) (BS af<|2765444) y)<|2764107)<|P<|353771599) y y) y) Jp
def Co:lZ (cx mD 3):=.cons (nR (nM 8<|2752772) (yR (pM (qc 11 (nI (jC (lX 4<|2753924) aI (aq<|lX 1<|2754307) (P<|352542751)<|P<|352501792) y)<|2753289) (qc 11 (nI (jC (lX 4<|2755396) (aq<|lX 1<|2755715) aI (P<|352731190)<|P<|352690231) y)<|2754761) y) 0) y) Jq
def Jr:lZ (cx mD 3):=.cons (sD (jY<|P<|351395859) 8) iO
def Js:lZ (cx mD 3):=.cons (nR (zN (lX 0<|2736641)<|rh 7<|2736773) (BS af<|2737348) y) Jr
def Cp:lZ (cx mD 3):=.cons (iY (kX .Or (sI (o0 (lX 0<|2728385)<|rh 7<|2728517) (xY (qH .len 13 (nI (lX 4<|2729412) y) (2729155)) (oR (lX 1<|2729923)<|lX 2<|2730308) y) (tI (o0 (lX 4<|2730820)<|mj 256<|2731139) (mj 0<|2731649) y) y) (P<|349233211)) Js iO<|P<|349208851) Co
def Jt:lZ (cx mD 3):=.cons (sC (rF (lX 4<|2679556) 73 (nI (lX 7<|2680324) y) 7 y) y) iO
def Cq:lZ (cx mD 3):=.cons (nR (nM 4<|2704132) (oR (lX 4<|2704580)<|jh (jC (lX 4<|2705028) (aq<|lg (mj 1<|2705409)<|P<|346284065) aI (P<|346284066)<|P<|346243107) .Mult (oR (mj 3<|2705857)<|qc 9 (pM (lX 0<|2706753) (mj 2<|2706945) y)<|2706121) (P<|346243131)) y) iO
def Ju:lZ (cx mD 3):=.cons (nR (zN (lX 0<|2695937)<|rh 7<|2696069) (BT .Or (o0 (lX 0<|2696641)<|rh 7<|2696773) (tI (lX 4<|2697412) (jW ji<|P<|345333805) y) y y) y) Cq
def G6:lZ (cx mD 3):=.cons (nR (nM 4<|2720516) (oR (lX 4<|2720964)<|jh (xK<|nI (mj 0<|2721473) y) .Mult (kg (tI (lX 7<|2723332) (mj 17<|2723842) y) (oR (mj 3<|2721857)<|qc 9 (pM (lX 0<|2722753) (mj 3<|2722945) y)<|2722121) (oR (mj 11<|2724354)<|qc 9 (pM (lX 0<|2725313) (mj 7<|2725505) y)<|2724681)<|P<|348397660) (P<|348340317)) y) iO
def G7:lZ (cx mD 3):=.cons (iY (tI (lX 7<|2687812) (mj 16<|2688322) y) Ju G6<|P<|343999069) iO
def zQ:lZ (cx mD 3):=.cons (iY (Di (lX 7<|2671300) (mj 16<|2671746) y) Jt G7<|P<|341902173) iO
def G8:lZ (cx mD 3):=.cons (nR (nM 7<|2662916) (qc 14 (pM (lX 0<|2664001) (lX 6<|2664196) y)<|2663369) y) zQ
def G9:lZ (cx mD 3):=.cons (kQ (BT .And (kL (o0 (lX 0<|2655105)<|rh 7<|2655237)<|P<|339820566) (Di (qH .len 13 (nI (lX 4<|2656196) y) (2655939)) (oR (lX 1<|2656707)<|lX 2<|2657092) y) y y) G8<|P<|339772509) Cp
def zR:lZ (cx mD 3):=.cons (nR (nM 4<|2646276) (jW ji<|P<|338780173) y) G9
def Ha:lZ (cx mD 3):=.cons (sD (jY<|P<|337764371) 8) iO
def Hb:lZ (cx mD 3):=.cons (nR (zN (lX 0<|2630145)<|rh 7<|2630277) (BS af<|2630852) y) Ha
def Hc:lZ (cx mD 3):=.cons (iY (BT .Or (o0 (lX 0<|2621889)<|rh 7<|2622021) (kL (qc 12 (pM (lX 6<|2623684) (BS ag<|2624069) y)<|2622923)<|P<|335700015) y y) Hb iO<|P<|335577363) zR
def zS:lZ (cx mD 3):=.cons (nR (nM 6<|2613508) (qc 11 (nI (lX 4<|2614596) y)<|2613961) y) Hc
def Hd:lZ (cx mD 3):=.cons (nR (zN (lX 4<|2605572)<|o0 (xK<|iW (mj 16<|2605954) (iW (mj 17<|2606210) (iW (mj 18<|2606466) (iW (mj 0<|2606721) (iW (mj 8<|2606913) (iW (mj 7<|2607105) (iW (mj 9<|2607297) (iW (mj 6<|2607489) (iW (mj 10<|2607682) (iW (mj 5<|2607937) (iW (mj 11<|2608130) (iW (mj 4<|2608385) (iW (mj 12<|2608578) (iW (mj 3<|2608833) (iW (mj 13<|2609026) (iW (mj 2<|2609281) (sI (mj 14<|2609474) (mj 1<|2609729) (mj 15<|2609922) y) y) y) y) y) y) y) y) y) y) y) y) y) y) y) y) y)<|lX 5<|2610177) (qc 9 (pM (lX 0<|2611201) (mj 3<|2611393) y)<|2610569) y) iO
def He:lZ (cx mD 3):=.cons (j4 (nM 5<|2597377) 10 (nI (lX 3<|2598084) y) (P<|332505106) (P<|332505112) Hd<|P<|332431589) zS
def zT:lZ (cx mD 3):=.cons (nR (nM 4<|2588932) (vg (xK<|nI (mj 0<|2589441) y)<|mj 19<|2589762) y) He
def Hf:lZ (cx mD 3):=.cons (sD (jY<|P<|330424339) 8) iO
def Hg:lZ (cx mD 3):=.cons (nR (zN (lX 0<|2572801)<|rh 9<|2572933) (BS af<|2573508) y) Hf
def Hh:lZ (cx mD 3):=.cons (iY (BT .Or (xY (lX 1<|2564547) (mj 286<|2564931) y) (xY (lX 2<|2565380) (mj 30<|2565826) y) y y) Hg iO<|P<|328237331) zT
def Hi:lZ (cx mD 3):=.cons (sD (jY<|P<|327278611) 8) iO
def Hj:lZ (cx mD 3):=.cons (iY (o0 (lX 0<|2548161)<|rh 7<|2548293) Hi iO<|P<|326140051) Hh
def Hk:lZ (cx mD 3):=.cons (j5 yo [(1,(P<|325091335)),(2,(P<|325132301)),(3,(P<|325181459))] 0 (P<|325091347) (sI (oR (mj 257<|2540995)<|qc 9 (pM (lX 0<|2542017) (mj 5<|2542209) y)<|2541385) (oR (mj 1<|2542465)<|qc 9 (pM (lX 0<|2543361) (mj 5<|2543553) y)<|2542729) (oR (mj 4<|2543809)<|qc 9 (pM (lX 0<|2544705) (mj 4<|2544897) y)<|2544073) y) 0 (P<|325238871) (P<|325091415) y y) Hj
def Hl:lZ (cx mD 3):=Hk
theorem Hm:oK 318 mD 1 [] Hl.pP:=⟨("$"),λ_ _=>("$")⟩
def mS:List (Nat×bu):=[(42,lO),(5,lO),(3,lO),(18,lO),(66,lO),(6,lO),(92,lO),(33,lO),(46,lO),(39,lO),(57,lO),(69,gI),(115,gI),(13,gI),(36,gI),(125,gI),(109,gI),(58,gI)]
theorem sJ:(mS.map (·.1)).Nodup:=by decide
def MR:lZ (cx mS 5):=.cons (sD (kP (nI (rh 9<|2974469) y) 0<|P<|380723219) 4) iO
def MT:lZ (cx mS 5):=.cons (sD (yR (iW (rh 49<|2966790) (iW (qH .bytes 17 (nI (lX 3<|2967683) y) (2967301)) (sI (jh (oR (o0 (lX 2<|2968129)<|rh 5<|2968260)<|mj 7<|2968769) .FloorDiv (mj 8<|2969153) (P<|379912250)) (lX 4<|2969349) (o0 (lX 2<|2969793)<|rh 24<|2969926) y) y) y) 0) 12) iO
def MU:lZ (cx mS 5):=.cons (iY (tI (lX 6<|2958023) (mj 1<|2958721) y) MT iO<|P<|378601677) iO
def MV:lZ (cx mS 5):=.cons (sD (kP (nI (rh 9<|2950405) y) 0<|P<|377643035) 12) iO
def MW:lZ (cx mS 5):=.cons (iY (BT .Or (o0 (lX 2<|2941633)<|rh 9<|2941765) (xY (qH .len 13 (nI (lX 3<|2942659) y) (2942403)) (mj 400<|2943107) y) y y) MV iO<|P<|376504475) MU
def MX:lZ (cx mS 5):=.cons (sD (kP (nI (rh 7<|2934021) y) 0<|P<|375545883) 12) iO
def Eo:lZ (cx mS 5):=.cons (iY (o0 (lX 2<|2925249)<|rh 7<|2925381) MX iO<|P<|374407323) MW
def MY:lZ (cx mS 5):=.cons (nR (zN (lX 2<|2884353)<|rh 5<|2884484) (oR (o0 (lX 2<|2884993)<|rh 5<|2885124)<|vg (mj 8<|2885633)<|lX 8<|2885892) y) iO
def Ep:lZ (cx mS 5):=.cons (sC (rF (lX 3<|2876163) 77 (nI (qH .list 14 (nI (jC (lX 0<|2877188) (aq<|xJ (o0 (lX 2<|2877505)<|rh 5<|2877636)<|mj 8<|2878209) (aq<|oR (xJ (o0 (lX 2<|2878337)<|rh 5<|2878468)<|mj 8<|2879041)<|lX 8<|2879300) (P<|368320577)<|P<|368279618) y) (2876868)) y) 7 y) y) MY
def Jv:lZ (cx mS 5):=.cons (sD (kP (nI (rh 7<|2868741) y) 0<|P<|367190047) 16) iO
def Jw:lZ (cx mS 5):=.cons (iY (kX .Or (sI (o0 (lX 2<|2859969)<|rh 7<|2860101) (RR (oR (lX 8<|2860740)<|lX 9<|2861188) (mj 65535<|2861701) y) (xY (oR (xJ (o0 (lX 2<|2862273)<|rh 5<|2862404)<|mj 8<|2862977)<|lX 8<|2863236) (qH .len 13 (nI (lX 0<|2863940) y) (2863683)) y) y) (P<|366075986)) Jv iO<|P<|366051487) Ep
def Jx:lZ (cx mS 5):=.cons (j5 sJ [(8,(P<|365002768)),(9,(P<|365051926))] 0 (P<|365002774) (pM (qc 12 (pM (lX 2<|2853121) (mj 16<|2853314) y)<|2852489) (qc 12 (pM (lX 2<|2854273) (mj 16<|2854466) y)<|2853641) y) 0 (P<|365109309) (P<|365002813) y y) Jw
def Cr:lZ (cx mS 5):=.cons (nR (zN (lX 2<|2843393)<|rh 5<|2843524) (vg (jh (oR (o0 (lX 2<|2844097)<|rh 5<|2844228)<|mj 7<|2844737) .FloorDiv (mj 8<|2845121) (P<|364036136))<|mj 8<|2845377) y) Jx
def Jy:lZ (cx mS 5):=.cons (sC (qc 16 (sI (lX 2<|2918017) (lX 3<|2918211) (lX 10<|2918533) y)<|2917385) y) iO
def Jz:lZ (cx mS 5):=.cons (iY (kZ .And (kL (o0 (lX 2<|2909377)<|rh 7<|2909509)<|P<|372367387) (kL (o0 (lX 2<|2910529)<|rh 9<|2910661)<|P<|372514861) (P<|372367406) y y) Jy iO<|P<|372342952) iO
def Cs:lZ (cx mS 5):=.cons (nR (nM 10<|2900741) (kg (tI (lX 7<|2902340) (mj 2<|2902849) y) (qc 15 (nI (lX 2<|2901953) y)<|2901258) (jY<|P<|371621944)<|P<|371359800) y) Jz
def JB:lZ (cx mS 5):=.cons (iY (tI (lX 7<|2835140) (mj 0<|2835649) y) Cr Cs<|P<|362874152) Eo
def JC:lZ (cx mS 5):=.cons (sD (kP (nI (rh 7<|2827525) y) 0<|P<|361914395) 12) iO
def JD:lZ (cx mS 5):=.cons (iY (BT .Or (o0 (lX 2<|2818753)<|rh 7<|2818885) (tI (lX 7<|2819524) (mj 3<|2820033) y) y y) JC iO<|P<|360775835) JB
def JE:lZ (cx mS 5):=.cons (sC (rF (lX 4<|2810373) 73 (nI (lX 7<|2811204) y) 7 y) y) JD
def Ct:lZ (cx mS 5):=.cons (j5 sJ [(6,(P<|358678543)),(7,(P<|358752277))] 0 (P<|358678549) (pM (qc 12 (pM (lX 2<|2803905) (mj 1<|2804097) y)<|2803273) (qc 12 (pM (lX 2<|2804993) (mj 2<|2805185) y)<|2804361) y) 0 (P<|358809658) (P<|358678586) y y) JE
def JF:lZ (cx mS 5):=.cons (j4 (nM 5<|2793986) 11 (nI (mj 60<|2794754) y) (P<|357679123) (P<|357679127) Ct<|P<|357599949) MR
def JG:lZ (cx mS 5):=.cons (j5 sJ [(2,(P<|356548613)),(3,(P<|356573194)),(4,(P<|356614161))] 0 (P<|356548625) (sI (SE.dc [(42,(P<|356696092)),(5,(P<|356810792)),(7,(P<|356925495)),(9,(P<|357040197)),(24,(P<|357154900))] (iW (lX 0<|2787204) (iW (vg (mj 8<|2787969)<|lX 1<|2788226) (sI (BS ag<|2788933) (BS ag<|2789829) (mj 0<|2790785) y) y) y) (P<|356687960) rfl (λh=>by cases h)<|ak rfl) (jW ji<|P<|357253212) (jW ji<|P<|357285984) y) 0 (P<|356679777) (P<|356548705) y y) JF
def JH:lZ (cx mS 5):=JG
theorem JJ:oK 325 mS 2 [] JH.pP:=⟨("$"),λ_ _ _=>("$")⟩
def qp:List (Nat×bu):=[(42,lO),(5,lO),(89,lO),(75,lO),(90,gI),(87,gI),(131,gI),(58,gI)]
theorem Fj:(qp.map (·.1)).Nodup:=by decide
def JK:lZ (cx qp 10):=.cons (sD (kg (qH .Uf 6 (pM (lX 2<|3026119) (SE.ty 7<|P<|387416129) y) (3025418)) (yR (sI (rh 49<|3023622) (lX 2<|3024135) (lX 3<|3024710) y) 0) (kP (nI (rh 17<|3027525) y) 0<|P<|387514448)<|P<|387014736) 4) iO
def JL:lZ (cx qp 10):=.cons (nR (El (iV (nM 2<|2998791) (iV (nM 3<|2999366) jk y) y) 0) (qc 4 (pM (lX 0<|3000452) (lX 1<|3000834) y)<|2999943) y) iO
def JM:lZ (cx qp 10):=.cons (SS.tr JL 5 7 0 (P<|384917522) (P<|386007061) (P<|385998871) (P<|385941527) (P<|384860311) (P<|382763415) rfl) JK
def Hn:lZ (cx qp 10):=JM
theorem Ho:oK 332 qp 2 [] Hn.pP:=⟨("$"),λ_ _ _=>("$")⟩
def r9:List (Nat×bu):=[(25,lO),(79,lO),(38,lO),(2,lO),(69,gI)]
theorem JN:(r9.map (·.1)).Nodup:=by decide
def Pf:lZ (cx r9 1):=.cons (sC (rF (lX 0<|3047940) 73 (nI (wn (xJ (lX 1<|3048710)<|YL (mj 2<|3049345)<|lX 3<|3049665)<|mj 2<|3049921) y) 7 y) y) iO
def Ph:lZ (cx r9 1):=.cons (j4 (nM 3<|3039745) 4 (nI (lX 2<|3040452) y) (P<|389128210) (P<|389128216) Pf<|P<|389054633) iO
def MZ:lZ (cx r9 1):=Ph
theorem M0:oK 339 r9 3 [] MZ.pP:=⟨("$"),λ_ _ _ _=>("$")⟩
def oM:List (Nat×bu):=[(35,lO),(65,lO),(29,.cell),(43,lO),(46,.cell),(45,lO),(83,gI),(119,gI),(69,gI)]
theorem ui:(oM.map (·.1)).Nodup:=by decide
def JO:lZ (cx oM 1):=.cons (sD (lX 1<|3105477) 4) iO
def JP:lZ (cx oM 1):=.cons (nR (nM 2<|3097092) (oR (lX 2<|3097540)<|mj 1<|3097985) y) iO
def JQ:lZ (cx oM 1):=.cons (nR (zN (lX 1<|3088901)<|lX 5<|3089284) (kI (CI.rg 8 (nI (lX 4<|3092868) y) (P<|395837509)<|P<|395837515) [(500,lO),(2,lO),(29,.free),(46,.free)] (nM 1<|3092161) CT.no (wn (xJ (lX 2<|3089860)<|jh (mj 2<|3090369) .Pow (vf (vf (lX 3<|3090756)<|lX 1<|3091201)<|mj 1<|3091457) (P<|395567154))<|mj 2<|3091777) ⟨.function,qj [(500,lO),(2,lO),(29,.free),(46,.free)],ag,ag,[]⟩ (P<|395493452) rfl rfl rfl ("")) y) JP
def JR:lZ (cx oM 1):=.cons (kY (El (iV (nM 2<|3080708) (iV (nM 3<|3081092) jk y) y) 0) (yR (pM (vg (lX 2<|3081604)<|jh (mj 2<|3082049) .Pow (vf (lX 4<|3082436)<|lX 3<|3082884) (P<|394502191)) (lX 4<|3083332) y) 0) (P<|394330166) y (Tj (is:=[(2,(P<|394330124)),(3,(P<|394379282))]) ui rfl) y) JQ
def JS:lZ (cx oM 1):=.cons (kR (El (iV (nM 4<|3072516) (iV (nM 5<|3072900) jk y) y) 0) (SE.so 6 (nI (kI (CI.en 7 (nI (lX 0<|3076164) y) (P<|393666624)<|P<|393666630) [(500,lO),(2,lO),(46,lO)] (El (iV (nM 1<|3074817) (iV (nM 2<|3075012) jk y) y) 0) (CT.one<|xY (lX 2<|3076740) (mj 0<|3077185) y) (yR (pM (lX 2<|3073988) (lX 1<|3074369) y) 0) ⟨.function,qj [(500,lO),(2,lO),(46,lO)],ag,ag,[]⟩ (P<|393453651) rfl rfl rfl ("")) y) (P<|393396252)<|P<|393396308) JR (P<|393249175) y) JO
def JT:lZ (cx oM 1):=.cons (kY (El (iV (nM 1<|3064069) (iV (nM 2<|3064516) (iV (nM 3<|3064900) jk y) y) y) 0) (yR (sI (SE.dz<|P<|392372251) (mj 0<|3065665) (mj 0<|3065857) y) 0) (P<|392200226) y (Tj (is:=[(1,(P<|392200201)),(2,(P<|392257551)),(3,(P<|392306709))]) ui rfl) y) JS
def Hp:lZ (cx oM 1):=JT
theorem Hq:oK 344 oM 1 [] Hp.pP:=⟨("$"),λ_ _=>("$")⟩
def mJ:List (Nat×bu):=[(35,lO),(65,lO),(5,lO),(21,lO),(13,gI),(16,gI)]
theorem tB:(mJ.map (·.1)).Nodup:=by decide
def Cu:lZ (cx mJ 1):=.cons (sD (lX 1<|3261125) 4) iO
def qX:lZ (cx mJ 1):=.cons (nR (nM 2<|3252738) (oR (lX 2<|3253058)<|lX 3<|3253379) y) iO
def Cv:lZ (cx mJ 1):=.cons (sC (rF (lX 1<|3179269) 73 (nI (yR (sI (mj 18<|3180162) (vf (lX 3<|3180419)<|mj 11<|3180802) (mj 7<|3181057) y) 0) y) 7 y) y) iO
def Cw:lZ (cx mJ 1):=.cons (nR (nM 3<|3171075) (qH .min 5 (pM (lX 3<|3171715) (mj 138<|3172035) y) (3171459)) y) Cv
def Cy:lZ (cx mJ 1):=.cons (sC (rF (lX 1<|3195653) 73 (nI (yR (sI (mj 17<|3196546) (vf (lX 3<|3196803)<|mj 3<|3197185) (mj 3<|3197377) y) 0) y) 7 y) y) iO
def Cz:lZ (cx mJ 1):=.cons (sC (rF (lX 1<|3220229) 73 (nI (yR (sI (mj 16<|3221122) (vf (lX 3<|3221379)<|mj 3<|3221761) (mj 2<|3221953) y) 0) y) 7 y) y) iO
def CA:lZ (cx mJ 1):=.cons (nR (nM 3<|3212035) (qH .min 5 (pM (lX 3<|3212675) (mj 6<|3212993) y) (3212419)) y) Cz
def CB:lZ (cx mJ 1):=.cons (sC (rF (lX 1<|3244805) 73 (nI (yR (sI (o0 (lX 0<|3245700)<|lX 2<|3246018) (mj 0<|3246337) (mj 0<|3246529) y) 0) y) 7 y) y) iO
def vO:lZ (cx mJ 1):=.cons (nR (nM 3<|3236611) (mj 1<|3236993) y) CB
def uy:lZ (cx mJ 1):=.cons (iY (kX .And (sI (xY (lX 2<|3203906) (mj 0<|3204225) y) (tI (o0 (lX 0<|3204612)<|lX 2<|3204930) (o0 (lX 0<|3205380)<|vf (lX 2<|3205698)<|mj 1<|3206017) y) (xY (lX 3<|3206531) (mj 2<|3206913) y) y) (P<|410099774)) CA vO<|P<|410059434) iO
def AJ:lZ (cx mJ 1):=.cons (iY (BT .And (tI (o0 (lX 0<|3187524)<|lX 2<|3187842) (mj 0<|3188289) y) (xY (lX 3<|3188675) (mj 2<|3189057) y) y y) Cy uy<|P<|407962538) iO
def uA:lZ (cx mJ 1):=.cons (iY (BT .And (tI (o0 (lX 0<|3162820)<|lX 2<|3163138) (mj 0<|3163585) y) (xY (lX 3<|3163971) (mj 10<|3164354) y) y y) Cw AJ<|P<|404817194) qX
def AK:lZ (cx mJ 1):=.cons (nR (nM 3<|3154691) (oR (lX 3<|3155075)<|mj 1<|3155457) y) iO
def AL:lZ (cx mJ 1):=.cons (kQ (BT .And (Di (oR (lX 2<|3146626)<|lX 3<|3146947) (qH .len 4 (nI (lX 0<|3147588) y) (3147331)) y) (tI (o0 (lX 0<|3148228)<|oR (lX 2<|3148546)<|lX 3<|3148867) (o0 (lX 0<|3149380)<|lX 2<|3149698) y) y y) AK<|P<|402718873) uA
def AM:lZ (cx mJ 1):=.cons (nR (nM 3<|3138051) (mj 1<|3138433) y) AL
def AN:lZ (cx mJ 1):=.cons (kQ (Di (lX 2<|3129986) (qH .len 4 (nI (lX 0<|3130564) y) (3130307)) y) AM<|P<|400590741) Cu
def AP:lZ (cx mJ 1):=.cons (j5 tB [(1,(P<|399540233)),(2,(P<|399597581))] 0 (P<|399540237) (pM (jW ji<|P<|399646739) (mj 0<|3122497) y) 0 (P<|399638551) (P<|399540247) y y) AN
def AQ:lZ (cx mJ 1):=AP
theorem AR:oK 351 mJ 1 [] AQ.pP:=⟨("$"),λ_ _=>("$")⟩
def pR:List (Nat×bu):=[(70,lO),(38,lO),(35,lO),(2,lO),(45,lO),(119,gI),(16,gI),(15,gI),(13,gI)]
theorem Fk:(pR.map (·.1)).Nodup:=by decide
def JU:lZ (cx pR 1):=.cons (sD (lX 2<|3302084) 4) iO
def JV:lZ (cx pR 1):=.cons (nR (zN (lX 2<|3293700)<|lX 4<|3294020) (qH .min 6 (pM (oR (lX 3<|3294785)<|mj 1<|3295041) (qH .max 7 (pM (mj 1<|3295489) (vf (qH .len 8 (nI (lX 0<|3295941) y) (3295683))<|mj 1<|3296513) y) (3295235)) y) (3294531)) y) iO
def JW:lZ (cx pR 1):=.cons (lf (iV (nM 3<|3285505) (iV (nM 4<|3285700) jk y) y) 0 (P<|420544527) 5 (nI (lX 0<|3286853) y) (P<|420634652) (P<|420634659) JV<|P<|420511927) JU
def JX:lZ (cx pR 1):=.cons (nR (nM 2<|3277060) (vg (xK<|nI (mj 0<|3277569) y)<|lX 1<|3277892) y) JW
def Hr:lZ (cx pR 1):=JX
theorem Hs:oK 358 pR 2 [] Hr.pP:=⟨("$"),λ_ _ _=>("$")⟩
def oN:List (Nat×bu):=[(70,lO),(38,lO),(59,lO),(23,lO),(35,lO),(2,lO),(45,lO),(28,lO),(126,gI),(119,gI),(13,gI)]
theorem Fl:(oN.map (·.1)).Nodup:=by decide
def JY:lZ (cx oN 2):=.cons (sD (lX 4<|3359428) 4) iO
def CC:lZ (cx oN 2):=.cons (nR (zN (lX 4<|3351300)<|lX 6<|3351620) (kg (tI (lX 3<|3353603) (mj 1<|3354049) y) (o0 (xK<|sI (mj 3<|3352193) (mj 1<|3352385) (mj 2<|3352577) y)<|wn (lX 7<|3352772)<|mj 3<|3353217) (kg (tI (lX 3<|3356227) (mj 2<|3356673) y) (oR (mj 1<|3354497)<|jh (oR (xJ (lX 7<|3354820)<|mj 3<|3355329)<|lX 5<|3355585) .Mod (mj 4<|3355905) (P<|429408341)) (mj 3<|3357121)<|P<|429375592)<|P<|429072488) y) iO
def JZ:lZ (cx oN 2):=.cons (nR (nM 7<|3343108) (kg (RR (lX 2<|3345157) (jW ji<|P<|428253239) y) (o0 (lX 2<|3343557)<|wn (lX 5<|3343937)<|qH .len 10 (nI (lX 2<|3344453) y) (3344195)) (mj 0<|3346241)<|P<|427974718) y) CC
def J0:lZ (cx oN 2):=.cons (lf (iV (nM 5<|3334913) (iV (nM 6<|3335108) jk y) y) 0 (P<|426868755) 9 (nI (lX 0<|3336261) y) (P<|426958880) (P<|426958887) JZ<|P<|426836328) iO
def J1:lZ (cx oN 2):=.cons (iY (xY (lX 3<|3326403) (mj 0<|3326785) y) J0 iO<|P<|425755112) JY
def J2:lZ (cx oN 2):=.cons (nR (nM 4<|3318020) (qc 8 (pM (lX 0<|3319173) (lX 1<|3319620) y)<|3318474) y) J1
def Ht:lZ (cx oN 2):=J2
theorem Hu:oK 365 oN 4 [] Ht.pP:=⟨("$"),λ_ _ _ _ _=>("$")⟩
def n8:List (Nat×bu):=[(25,lO),(59,lO),(42,lO),(39,lO),(4,lO),(13,gI),(11,gI),(22,gI),(101,gI)]
theorem DD:(n8.map (·.1)).Nodup:=by decide
def Hv:lZ (cx n8 2):=.cons (sC (qc 8 (sI (lX 0<|3425348) (lX 4<|3425729) (mj 8<|3425921) y)<|3424776) y) iO
def Hw:lZ (cx n8 2):=.cons (kR (nM 4<|3416577) (lX 2<|3416900) Hv (P<|437289116) y) iO
def Hx:lZ (cx n8 2):=.cons (sC (qc 8 (sI (lX 0<|3408708) (lX 3<|3409092) (mj 16<|3409474) y)<|3408136) y) Hw
def Hy:lZ (cx n8 2):=.cons (sC (qc 8 (sI (lX 0<|3400516) (qH .len 5 (nI (lX 2<|3401156) y) (3400899)) (mj 16<|3401602) y)<|3399944) y) Hx
def Hz:lZ (cx n8 2):=.cons (sC (rF (lX 0<|3391748) 77 (nI (jh (xK<|nI (wn (qH .sum 7 (nI (lX 1<|3392837) y) (3392579))<|mj 2<|3393409) y) .Mult (wn (lg (qH .len 5 (nI (lX 0<|3394116) y) (3393859))<|P<|434405422)<|mj 8<|3394625) (P<|434241587)) y) 7 y) y) Hy
def HA:lZ (cx n8 2):=.cons (nR (nM 3<|3383556) (vf (vf (mj 65535<|3384005)<|qH .len 5 (nI (lX 2<|3384772) y) (3384515))<|qH .int 6 (nI (tI (wn (qH .sum 7 (nI (lX 1<|3385797) y) (3385539))<|mj 5<|3386369) (mj 4<|3386689) y) y) (3385283)) y) Hz
def HB:lZ (cx n8 2):=.cons (lh 2 (P<|432046088) (CI.li (lX 1<|3377349) y) [(500,lO),(28,lO)] (nM 1<|3376836) CT.no (wn (lX 1<|3375876)<|mj 256<|3376323) ⟨.function,qj [(500,lO),(28,lO)],ag,ag,[]⟩ (P<|432103465) (P<|432046121) rfl rfl rfl ("") rfl) HA
def Fm:lZ (cx n8 2):=HB
theorem Fo:oK 370 n8 2 [] Fm.pP:=⟨("$"),λ_ _ _=>("$")⟩
def mu:List (Nat×bu):=[(25,lO),(59,lO),(72,.cell),(28,lO),(47,.cell),(37,lO),(62,lO),(104,lO),(117,lO),(120,lO),(130,lO),(19,lO),(45,lO),(122,lO),(79,lO),(40,lO),(9,lO),(22,gI),(119,gI),(11,gI),(128,gI),(15,gI),(127,gI),(101,gI),(13,gI),(150,gI),(114,gI),(100,gI)]
theorem vP:(mu.map (·.1)).Nodup:=by decide
def Fp:lZ (cx mu 3):=.cons (sC (rF (lX 0<|3678468) 77 (nI (rF (lX 9<|3679241) 10 (pM (mj 256<|3680131) (jW ji<|P<|471097381) y) 4 y) y) 7 y) y) iO
def Fq:lZ (cx mu 3):=.cons (sC (qc 23 (sI (lX 0<|3671876) (xJ (lX 3<|3672260)<|mj 13<|3672770) (o0 (qc 27 (nI (lX 16<|3673603) y)<|3673032)<|mj 1<|3673921) y)<|3671304) y) iO
def Fs:lZ (cx mu 3):=.cons (sC (rF (lX 0<|3663108) 77 (nI (o0 (lX 10<|3663882)<|lX 16<|3664579) y) 7 y) y) Fq
def Ft:lZ (cx mu 3):=.cons (nR (nM 16<|3654915) (o0 (lX 6<|3655301)<|wn (xJ (lX 3<|3655684)<|mj 11<|3656194)<|qH .len 24 (nI (lX 6<|3656773) y) (3656515)) y) Fs
def Fu:lZ (cx mu 3):=.cons (iY (RR (lX 6<|3646661) (jW ji<|P<|466845726) y) Ft iO<|P<|466747840) iO
def Fv:lZ (cx mu 3):=.cons (sC (qc 23 (sI (lX 0<|3638852) (xJ (lX 3<|3639236)<|mj 7<|3639745) (o0 (qc 26 (nI (vf (lX 12<|3640580)<|mj 257<|3641027) y)<|3639945)<|mj 1<|3641345) y)<|3638280) y) Fu
def Fw:lZ (cx mu 3):=.cons (iY (xY (lX 12<|3630020) (mj 256<|3630467) y) Fv iO<|P<|464618176) iO
def Fx:lZ (cx mu 3):=.cons (sC (rF (lX 0<|3621636) 77 (nI (o0 (lX 9<|3622409)<|lX 12<|3623044) y) 7 y) y) Fw
def yp:lZ (cx mu 3):=.cons (iY (RR (lX 12<|3613380) (mj 256<|3613891) y) Fx iO<|P<|462488512) iO
def DE:lZ (cx mu 3):=.cons (nR (nM 12<|3604996) (kg (RR (lX 5<|3607108) (jW ji<|P<|461774899) y) (o0 (lX 5<|3605444)<|wn (lX 3<|3605764)<|qH .len 24 (nI (lX 5<|3606468) y) (3606211)) (mj 256<|3608131)<|P<|461496380) y) yp
def w6:lZ (cx mu 3):=.cons (kR (nM 3<|3596804) (lX 1<|3597317) DE (P<|460358848) y) Fp
def DF:lZ (cx mu 3):=.cons (sC (qc 23 (sI (lX 0<|3589188) (lX 14<|3589574) (lX 15<|3590084) y)<|3588616) y) iO
def DG:lZ (cx mu 3):=.cons (sC (rF (lX 0<|3580420) 77 (nI (rF (lX 13<|3581193) 10 (pM (lX 12<|3582084) (jW ji<|P<|458555434) y) 4 y) y) 7 y) y) DF
def w7:lZ (cx mu 3):=.cons (kR (El (iV (nM 12<|3572228) (iV (nM 14<|3572614) (iV (nM 15<|3573124) jk y) y) y) 0) (jC (qc 25 (nI (oR (lX 7<|3574600)<|lX 8<|3575305) y)<|3573646) (aq<|xJ (wn (xJ (lX 2<|3576005)<|mj 13<|3576578)<|mj 7<|3576897)<|mj 6<|3577217) aI (P<|457728088)<|P<|457424985) DG (P<|457212196) y) w6
def DH:lZ (cx mu 3):=.cons (nR (nM 13<|3563785) (qc 22 (nI (lX 11<|3565251) y)<|3564554) y) w7
def DI:lZ (cx mu 3):=.cons (sC (qc 23 (sI (lX 0<|3556420) (o0 (lX 11<|3556803)<|lX 12<|3557060) (mj 3<|3557505) y)<|3555848) y) iO
def sT:lZ (cx mu 3):=.cons (SS.ft (nM 12<|3547652) (yR (iW (mj 16<|3548226) (iW (mj 17<|3548482) (iW (mj 18<|3548738) (iW (mj 0<|3548993) (iW (mj 8<|3549185) (iW (mj 7<|3549377) (iW (mj 9<|3549569) (iW (mj 6<|3549761) (iW (mj 10<|3549954) (iW (mj 5<|3550209) (iW (mj 11<|3550402) (iW (mj 4<|3550657) (iW (mj 12<|3550850) (iW (mj 3<|3551105) (iW (mj 13<|3551298) (iW (mj 2<|3551553) (sI (mj 14<|3551746) (mj 1<|3552001) (mj 15<|3552194) y) y) y) y) y) y) y) y) y) y) y) y) y) y) y) y) y) 0) DI (P<|454066340) y) DH
def DJ:lZ (cx mu 3):=.cons (lh 11 (P<|453050379) (CI.en 18 (nI (lX 11<|3544899) y) (P<|453664860)<|P<|453664865) [(500,lO),(2,lO),(4,lO),(72,.free)] (El (iV (nM 1<|3543745) (iV (nM 2<|3543937) jk y) y) 0) CT.no (kg (tI (wn (lX 1<|3541825)<|mj 7<|3542081) (wn (lX 3<|3542405)<|mj 7<|3542913) y) (jh (oR (lX 2<|3539969)<|jh (lX 3<|3540229) .FloorDiv (oR (lX 1<|3540865)<|mj 1<|3541121) (P<|453148708)) .Mod (mj 8<|3541505) (P<|453107753)) (lX 2<|3543361)<|P<|453107782) ⟨.function,qj [(500,lO),(2,lO),(4,lO),(72,.free)],ag,ag,[]⟩ (P<|453099618) (P<|453050466) rfl rfl rfl ("") rfl) iO
def DK:lZ (cx mu 3):=.cons (iY (tI (wn (xJ (lX 2<|3531205)<|mj 11<|3531778)<|mj 6<|3532097) (mj 5<|3532417) y) DJ iO<|P<|451969250) sT
def w8:lZ (cx mu 3):=.cons (nR (nM 11<|3522819) (oR (vg (xK<|nI (mj 4<|3523265) y)<|mj 13<|3523586)<|vg (xK<|nI (mj 5<|3523969) y)<|mj 6<|3524289) y) DK
def DL:lZ (cx mu 3):=.cons (sC (qc 23 (sI (lX 0<|3515204) (mj 15<|3515586) (mj 4<|3515841) y)<|3514632) y) w8
def DM:lZ (cx mu 3):=.cons (sC (qc 23 (sI (lX 0<|3507012) (vf (qH .len 24 (nI (lX 8<|3507657) y) (3507395))<|mj 1<|3508481) (mj 5<|3508673) y)<|3506440) y) DL
def DN:lZ (cx mu 3):=.cons (sC (qc 23 (sI (lX 0<|3498820) (vf (qH .len 24 (nI (lX 7<|3499464) y) (3499203))<|mj 257<|3500227) (mj 5<|3500545) y)<|3498248) y) DM
def w9:lZ (cx mu 3):=.cons (j5 vP [(9,(P<|446726157)),(10,(P<|446816281))] 0 (P<|446726169) (pM (qc 22 (nI (lX 7<|3492360) y)<|3491658) (qc 22 (nI (lX 8<|3493769) y)<|3493066) y) 0 (P<|446922825) (P<|446726217) y y) DN
def DO:lZ (cx mu 3):=.cons (nR (nM 8<|3481865) (qc 20 (iW (lX 6<|3483333) (sI (qH .max 21 (nI (oR (xK<|nI (mj 1<|3484097) y)<|kI (CI.li (lX 6<|3485445) y) [(500,lO),(4,lO)] (nM 1<|3485121) CT.no (oR (lX 1<|3484481)<|mj 1<|3484737) ⟨.function,qj [(500,lO),(4,lO)],ag,ag,[]⟩ (P<|446005314) rfl rfl rfl ("")) y) (3483779)) (SE.rv (lX 1<|3486021) (lg (mj 1<|3486593)<|P<|446275663) (P<|446259279)<|P<|446210128) (o0 (xK<|iW (mj 0<|3486913) (iW (mj 0<|3487105) (sI (mj 1<|3487297) (mj 2<|3487489) (mj 3<|3487681) y) y) y)<|wn (xJ (lX 2<|3487877)<|mj 7<|3488449)<|mj 5<|3488705) y) y)<|3482634) y) w9
def xb:lZ (cx mu 3):=.cons (nR (nM 7<|3473672) (qc 20 (iW (lX 5<|3475076) (sI (qH .max 21 (nI (oR (xK<|nI (mj 257<|3475779) y)<|kI (CI.li (lX 5<|3477252) y) [(500,lO),(4,lO)] (nM 1<|3476929) CT.no (oR (lX 1<|3476289)<|mj 1<|3476545) ⟨.function,qj [(500,lO),(4,lO)],ag,ag,[]⟩ (P<|444956737) rfl rfl rfl ("")) y) (3475459)) (lX 1<|3477765) (o0 (xK<|iW (mj 0<|3478273) (iW (mj 0<|3478465) (iW (mj 0<|3478657) (sI (mj 1<|3478849) (mj 2<|3479041) (mj 3<|3479233) y) y) y) y)<|wn (xJ (lX 2<|3479429)<|mj 5<|3480001)<|mj 6<|3480257) y) y)<|3474378) y) DO
def DP:lZ (cx mu 3):=.cons (nR (nM 6<|3465477) (jC (xK<|iW (mj 0<|3466049) (iW (mj 1<|3466241) (sI (mj 2<|3466433) (mj 3<|3466625) (mj 4<|3466817) y) y) y) aI (aq<|wn (xJ (lX 2<|3467077)<|mj 3<|3467649)<|mj 6<|3467905) (P<|443777067)<|P<|443645996) y) xb
def xc:lZ (cx mu 3):=.cons (nR (nM 5<|3457284) (oR (jC (kI (CI.en 18 (nI (lX 4<|3459332) y) (P<|442712099)<|P<|442712105) [(500,lO),(2,lO),(4,lO),(47,.free)] (El (iV (nM 1<|3458177) (iV (nM 2<|3458369) jk y) y) 0) (CT.one<|Mb (lX 2<|3459905) .NotIn (jC (lX 3<|3460484) aI (aq<|lX 1<|3460865) (P<|442982461)<|P<|442941502) y) (lX 2<|3457793) ⟨.function,qj [(500,lO),(2,lO),(4,lO),(47,.free)],ag,ag,[]⟩ (P<|442589247) rfl rfl rfl ("")) aI (aq<|wn (lX 2<|3461189)<|mj 8<|3461697) (P<|443023434)<|P<|442589259)<|vg (xK<|nI (mj 256<|3462083) y)<|qH .int 19 (nI (xY (wn (xJ (lX 2<|3462789)<|mj 8<|3463361)<|mj 9<|3463617) (mj 0<|3463873) y) y) (3462531)) y) DP
def DQ:lZ (cx mu 3):=.cons (nR (nM 4<|3449092) (oR (kI (CI.li (jC (lX 1<|3451269) aI (aq<|mj 2<|3451713) (P<|441810990)<|P<|441761839) y) [(500,lO),(28,lO)] (nM 1<|3450756) CT.no (oR (mj 97<|3449602)<|wn (lX 1<|3449924)<|mj 3<|3450369) ⟨.function,qj [(500,lO),(28,lO)],ag,ag,[]⟩ (P<|441540656) rfl rfl rfl (""))<|xK<|iW (mj 257<|3452163) (iW (mj 100<|3452483) (iW (mj 101<|3452803) (sI (mj 102<|3453123) (mj 258<|3453443) (mj 265<|3453763) y) y) y) y) y) xc
def DR:lZ (cx mu 3):=.cons (nR (nM 2<|3440901) (qH .sum 17 (nI (lX 1<|3441669) y) (3441411)) y) DQ
def DS:lZ (cx mu 3):=DR
theorem DT:oK 375 mu 2 [] DS.pP:=⟨("$"),λ_ _ _=>("$")⟩
def rx:List (Nat×bu):=[(25,.cell),(69,gI),(13,gI)]
theorem DU:(rx.map (·.1)).Nodup:=by decide
def HC:lZ (cx rx 1):=.cons (sD (kI (CI.rg 1 (sI (mj 0<|3700097) (qH .len 2 (nI (lX 0<|3700548) y) (3700291)) (mj 8<|3700993) y) (P<|473563221)<|P<|473563238) [(500,lO),(2,lO),(22,gI),(119,gI),(25,.free)] (nM 1<|3699393) CT.no (qH .sum 2 (nI (kI (CI.en 3 (nI (jC (lX 4<|3698052) (aq<|lX 1<|3698369) (aq<|oR (lX 1<|3698497)<|mj 8<|3698753) (P<|473391170)<|P<|473350211) y) (P<|473268277)<|P<|473268292) [(500,lO),(1,lO),(8,lO)] (El (iV (nM 1<|3696769) (iV (nM 2<|3696963) jk y) y) 0) CT.no (vg (lX 2<|3695683)<|YL (mj 2<|3696065)<|lX 1<|3696385) ⟨.function,qj [(500,lO),(1,lO),(8,lO)],ag,ag,[]⟩ (P<|473038917) rfl rfl rfl ("")) y) (3695363)) ⟨.function,qj [(500,lO),(2,lO),(22,gI),(119,gI),(25,.free)],ag,ag,[]⟩ (P<|472997991) rfl rfl rfl ("")) 4) iO
def Fy:lZ (cx rx 1):=HC
theorem Fz:oK 380 rx 1 [] Fy.pP:=⟨("$"),λ_ _=>("$")⟩
def oI:List (Nat×bu):=[(82,lO),(59,lO),(20,lO),(33,lO),(5,lO),(42,lO),(49,lO),(72,lO),(25,lO),(2,lO),(47,lO),(23,lO),(13,gI),(22,gI),(58,gI),(112,gI),(129,gI),(119,gI),(11,gI),(101,gI),(135,gI),(142,gI),(134,gI)]
theorem Pi:(oI.map (·.1)).Nodup:=by decide
def Xs:lZ (cx oI 11):=.cons (sD (BT .Or (tI (o0 (lX 6<|3900100)<|mj 0<|3900417) (rh 9<|3900805) y) (tI (qc 16 (pM (lX 5<|3902084) (lX 4<|3902466) y)<|3901386) (jC (lX 6<|3902916) aI (aq<|mj 3<|3903297) (P<|499613758)<|P<|499572799) y) y y) 4) iO
def ψ:lZ (cx oI 11):=.cons (nR (nM 6<|3891460) (qc 15 (pM (lX 5<|3892548) (lX 4<|3892930) y)<|3891913) y) Xs
def Xu:lZ (cx oI 11):=.cons (nR (nM 5<|3883268) (qH .bytes 14 (nI (oR (oR (vg (xK<|nI (mj 5<|3884161) y)<|lX 4<|3884482)<|qc 22 (nI (lX 8<|3885572) y)<|3884811)<|jC (lX 2<|3886083) aI (aq<|wn (xJ (lX 7<|3886405)<|mj 6<|3886977)<|mj 3<|3887233) (P<|497451075)<|P<|497418308) y) (3883717)) y) ψ
def ω:lZ (cx oI 11):=.cons (sC (qc 20 (pM (lX 8<|3859972) (lX 10<|3860356) y)<|3859211) y) iO
def Δ:lZ (cx oI 11):=.cons (sC (qc 21 (pM (lX 8<|3876420) (lX 10<|3876804) y)<|3875596) y) iO
def Θ:lZ (cx oI 11):=.cons (iY (tI (lX 11<|3850947) (mj 0<|3851393) y) ω Δ<|P<|492896676) iO
def Ξ:lZ (cx oI 11):=.cons (sC (qc 19 (sI (lX 8<|3843140) (vg (mj 2<|3843521)<|lX 11<|3843779) (mj 2<|3844097) y)<|3842568) y) Θ
def Φ:lZ (cx oI 11):=.cons (nR (nM 11<|3834371) (qH .int 18 (nI (xY (jh (oR (xJ (lX 7<|3835077)<|mj 2<|3835649)<|lX 9<|3835905) .Mod (mj 4<|3836225) (P<|490881062)) (mj 0<|3836481) y) y) (3834755)) y) Ξ
def Ψ:lZ (cx oI 11):=.cons (sC (rF (lX 8<|3826180) 73 (nI (qH .int 18 (nI (tI (lX 9<|3827201) (vf (mj 1<|3827521)<|wn (lX 7<|3827781)<|mj 2<|3828289) y) y) (3826947)) y) 7 y) y) Φ
def Xv:lZ (cx oI 11):=.cons (lf (iV (nM 9<|3817985) (iV (nM 10<|3818180) jk y) y) 0 (P<|488701967) 17 (nI (jC (xK<|pM (jC (lX 1<|3819397) aI (aq<|mj 3<|3819841) (P<|488931366)<|P<|488882215) (oR (jC (lX 1<|3820101) (aq<|mj 3<|3820481) (aq<|mj 10<|3820610) (P<|489021491)<|P<|488972340)<|jC (lX 1<|3820997) aI (aq<|mj 1<|3821441) (P<|489136191)<|P<|489087040) y) (aq<|wn (lX 7<|3821701)<|mj 2<|3822209) aI (P<|489177164)<|P<|488874061) y) (P<|488792092) (P<|488792142) Ψ<|P<|488670116) Xu
def Pj:lZ (cx oI 11):=.cons (j5 Pi [(7,(P<|487620617)),(8,(P<|487677967))] 0 (P<|487620623) (pM (oR (qH .sum 13 (nI (lX 1<|3810757) y) (3810499))<|vg (mj 3<|3811329)<|qH .len 12 (nI (lX 1<|3811845) y) (3811587)) (jW ji<|P<|487981106) y) 0 (P<|487735347) (P<|487620659) y y) Xv
def Xw:lZ (cx oI 11):=.cons (sD (BS ag<|3802053) 8) iO
def Ts:lZ (cx oI 11):=.cons (iY (BT .And (RR (o0 (lX 6<|3793348)<|mj 0<|3793665) (rh 9<|3794053) y) (RR (qc 16 (pM (lX 5<|3795396) (lX 4<|3795778) y)<|3794698) (jC (lX 6<|3796228) aI (aq<|mj 3<|3796609) (P<|485957691)<|P<|485916732) y) y y) Xw iO<|P<|485523604) Pj
def Xx:lZ (cx oI 11):=.cons (nR (nM 6<|3784964) (qc 15 (pM (lX 5<|3786052) (lX 4<|3786434) y)<|3785417) y) Ts
def Xy:lZ (cx oI 11):=.cons (nR (nM 5<|3776772) (qH .bytes 14 (nI (oR (vg (xK<|nI (mj 5<|3777665) y)<|lX 4<|3777986)<|lX 2<|3778307) y) (3777221)) y) Xx
def Tt:lZ (cx oI 11):=.cons (nR (nM 4<|3768578) (wn (xJ (qH .sum 13 (nI (lX 1<|3769157) y) (3768899))<|mj 4<|3769793)<|mj 3<|3770049) y) Xy
def Xz:lZ (cx oI 11):=.cons (nR (nM 2<|3760643) (oR (oR (jC (lX 2<|3761027) aI (aq<|mj 1<|3761345) (P<|481443860)<|P<|481411093)<|xK<|iW (jh (vf (qH .len 12 (nI (lX 2<|3762051) y) (3761795))<|mj 5<|3762497) .Mod (mj 256<|3762819) (P<|481501229)) (sI (mj 0<|3763137) (vf (mj 255<|3763331)<|jh (vf (qH .len 12 (nI (lX 2<|3764035) y) (3763779))<|mj 5<|3764481) .Mod (mj 256<|3764803) (P<|481755212)) (mj 255<|3765123) y) y)<|jC (lX 2<|3765571) (aq<|mj 5<|3765825) aI (P<|482025563)<|P<|481992796) y) iO
def Tu:lZ (cx oI 11):=.cons (iY (kX .And (sI (tI (lX 3<|3752388) (mj 0<|3752897) y) (xY (qH .len 12 (nI (lX 2<|3753539) y) (3753283)) (mj 4<|3753985) y) (xY (wn (xJ (qH .sum 13 (nI (lX 1<|3754693) y) (3754435))<|mj 2<|3755329)<|mj 4<|3755585) (mj 0<|3755841) y) y) (P<|480305215)) Xz iO<|P<|480280796) Tt
def XA:lZ (cx oI 11):=.cons (nR (zN (lX 2<|3744259)<|mj 0<|3744513) (oR (oR (vg (xJ (o0 (lX 2<|3744835)<|mj 0<|3745089)<|mj 8<|3745473)<|mj 8<|3745729)<|vg (mj 2<|3745985)<|lX 3<|3746244)<|wn (qH .sum 13 (nI (lX 1<|3746949) y) (3746691))<|mj 2<|3747521) y) iO
def XB:lZ (cx oI 11):=.cons (iY (RR (lX 2<|3736003) (jW ji<|P<|478265360) y) XA iO<|P<|478183612) Tu
def XC:lZ (cx oI 11):=.cons (nR (nM 3<|3727620) (wn (xJ (qH .len 12 (nI (lX 1<|3728325) y) (3728067))<|mj 2<|3728961)<|mj 3<|3729217) y) XB
def XD:lZ (cx oI 11):=.cons (lh 2 (P<|476086279) (CI.li (lX 1<|3721349) y) [(500,lO),(28,lO)] (nM 1<|3720836) CT.no (wn (lX 1<|3719876)<|mj 256<|3720323) ⟨.function,qj [(500,lO),(28,lO)],ag,ag,[]⟩ (P<|476135464) (P<|476086312) rfl rfl rfl ("") rfl) XC
def XE:lZ (cx oI 11):=.cons (lh 1 (P<|475037705) (CI.li (SE.sc (lX 0<|3713862) 12 (P<|475439159) (P<|475430967)<|P<|475373624) y) [(500,lO),(28,lO),(11,gI)] (nM 1<|3713348) CT.no (wn (qH .int 2 (nI (lX 1<|3712068) y) (3711811))<|YL (mj 10<|3712578)<|mj 9<|3712961) ⟨.function,qj [(500,lO),(28,lO),(11,gI)],ag,ag,[]⟩ (P<|475103289) (P<|475037753) rfl rfl rfl ("") rfl) XD
def XF:lZ (cx oI 11):=XE
theorem XG:oK 385 oI 1 [] XF.pP:=⟨("$"),λ_ _=>("$")⟩
end
theorem J3(P:Params):findIn (KK P) (.ref 45) "__init__"=aq (aq<|.ref 29):=("$")
theorem M1(P:Params):findIn (KK P) (.ref 45) "__setattr__"=aq (aq<|.builtin "object.__setattr__"):=("$")
theorem M4(P:Params):((clsIn (KK P) 45).any λcd=>ro cd.mro&&cd.hasDict)=af:=("$")
theorem J4(P:Params):takerIn (KK P) 45 (mV 49)=aq aI:=("$")
theorem XH(P:Params):[29,77,128,192].all (λf=>typeIn (KK P) (.ref f)==aq (.type "function"))=af:=("$")
theorem Pk(P:Params):[109,152,238].all (λC=>makesIn (KK P) C)=af:=("$")
theorem Pl(P:Params):findIn (KK P) (.ref 109) "__init__"=aq (aq<|.ref 77):=("$")
theorem Pm(P:Params):findIn (KK P) (.ref 152) "__init__"=aq (aq<|.ref 128):=("$")
theorem Pn(P:Params):findIn (KK P) (.ref 238) "__init__"=aq (aq<|.ref 192):=("$")
theorem Po(P:Params):plainGet (KK P) 109 (mV 68)=af/\hasDictIn (KK P) 109=af:=⟨("$"),("$")⟩
theorem RS(P:Params):findIn (KK P) (.ref 109) (mV 68)=aq (aq<|.ref 85):=("$")
theorem RT(P:Params):specialIn (KK P) (.ref 85) "__get__"=aq (aq<|.builtin "property.__get__"):=("$")
theorem RU(P:Params):takesIn (KK P) (.ref 85)=aq af:=("$")
theorem RV(P:Params):recIn (KK P) 85 "property"=aq [.ref 84,.none,.none,.none,vs "place" 316,.bool ag]:=("$")
theorem Pp(P:Params):(KK P).lookup 48=aq ⟨.type "tuple",aI,.seq (Ih (KK P) 48 0).toArray 0,#[]⟩:=("$")
def vQ:List Nat:=[16,17,18,0,8,7,9,6,10,5,11,4,12,3,13,2,14,1,15]
theorem RW{l:List Nat}:∀{k:Nat},oB ((l.zipIdx k).map λp=>Value.int p.1 p.2) (l.map λ(n:Nat)=>iR n):=by
 induction l with
 |nil=>intro k;exact .nil
 |cons n l ih=>intro k;exact .cons (.int _ _) ih
theorem M5(P:Params):oB (Ih (KK P) 48 0) (vQ.map λ(n:Nat)=>iR n):=by refine bF (show Ih (KK P) 48 0=(vQ.zipIdx 247).map λp=>Value.int p.1 p.2 from("$"))▸?_;exact RW
theorem XI(P:Params):oB (Ih (KK P) 121 0) [.bool ag,.bool af]:=by refine bF (show Ih (KK P) 121 0=[.bool ag,.bool af]from("$"))▸?_;exact .cons (.bool _) (.cons (.bool _) .nil)
theorem XJ(P:Params):oB (Ih (KK P) 121 1) [.bool af]:=by refine bF (show Ih (KK P) 121 1=[.bool af]from("$"))▸?_;exact .cons (.bool _) .nil
theorem XK(P:Params):oB (Ih (KK P) 243 1) [.int 32768]:=by refine bF (show Ih (KK P) 243 1=[.int 32768 559]from("$"))▸?_;exact .cons (.int _ _) .nil
theorem XM(P:Params):oB (Ih (KK P) 193 0) [.none]:=by refine bF (show Ih (KK P) 193 0=[.none]from("$"))▸?_;exact .cons .none .nil
section
theorem zU.XN:OJ 49 where
 set:=M1 _
 mro:=M4 _
 take:=J4 _
theorem zU.fn{f:bp}(m:f∈[29,77,128,192]):typeIn G.K (.ref f)=aq (.type "function"):=by exact beq_iff_eq.mp<|bT.mp (XH _) f m
theorem zU.Ω{C:bp}(m:C∈[109,152,238]):makesIn G.K C=af:=by exact bT.mp (Pk _) C m
theorem zU.place:KS 109 68 84:=
 ⟨85,_,(Po _).1,(Po _).2,RS _,RT _,RU _,RV _⟩
theorem zU.XO:KP 2:=by
 intro x H;refine UP (n:=1) (fI:=29) (J3 _) (zU.fn<|.head _) (ak rfl) λtx a h1 h2 ne=>?_;refine nS (n:=0) Ae yS .nil rfl ?_;refine iL (lT _ _ _) ⟨zU.XN,λd=>⟨rfl,a,tx,d,rfl,h2,h1,ne,?_⟩⟩;funext b;unfold upd;by_cases e:b=a
 .simp[e]
 .simp[e]
theorem zU.se{nw:List (Nat×bu)}{n:Nat}:xT (cx nw<|n+3):=xT.intro (m:=n+2) rfl λx H=>(zU.XO x H).up ("y{c}Ao,$#")
end
abbrev Pg:=List UInt8
def bitAt(pg:Pg)(p:Nat):Nat:=(pg.getD (p/8) 0).toNat/2^(p % 8) % 2
def mE(pg:Pg)(p:Nat):Nat->Nat
 |0=>0
 |n+1=>mE pg p n+bitAt pg (p+n)*2^n
def nU(pg:Pg)(n p:Nat):Option (Nat×Nat):=if p+n<=8*pg.length then aq (mE pg p n,p+n)else aI
def lY(ms:List bp)(H H':AH):Prop:=∀a o,H a=aq o->a∉ms->H' a=aq o
theorem lY.refl{ms:List bp}{H:AH}:lY ms H H:=λ_ _ h _=>h
theorem lY.trans{ms:List bp}{H H' IB:AH}(a:lY ms H H')(b:lY ms H' IB):lY ms H IB:=λx o h m=>b x o (a x o h m) m
theorem lY.more{ms ns:List bp}{H H':AH}(a:lY ms H H')(s:∀x∈ms,x∈ns):lY ns H H':=λx o h m=>a x o h λm'=>m<|s x m'
theorem lY.upd{ms:List bp}{H H':AH}{a:bp}{o:AO}(k:lY ms H H')(m:a∈ms):lY ms H (Mine.upd H' a o):=λx o' h n=>by let ne:x≠a:=λe=>n (by rw[e];exact m);rw[lV ne];exact k x o' h n
theorem lY.new{ms:List bp}{H H':AH}{a:bp}{o:AO}(k:lY ms H H')(m:H' a=aI):lY ms H (Mine.upd H' a o):=λx o' h n=>by
 let:=k x o' h n;let ne:x≠a:=λe=>by let this:=e▸this;let this:=m▸this;exact pB this
 rw[lV ne];exact this
theorem q8{a b:Int}(h: -(2^64)<a)(h':a<2^64):IntMulOk a b:=.of_left (jD h h')
theorem uj{a b:Int}(h: -(2^64)<b)(h':b<2^64):IntMulOk a b:=.of_right (jD h h')
theorem sf(k:Nat):(2:Int)^k=((2^k:Nat):Int):=by rw[Int.natCast_pow];rfl
theorem HD{k:Nat}(h:k<64):(0:Int)<2^k/\(2:Int)^k<18446744073709551616:=by rw[sf];let a:=Nat.pow_lt_pow_right (a:=2) ("") h;let b:=jT k;exact("&3n~jSw]wxZEI7*-fiq|tZWV8s&zW9k(=;|gDF0$#",a,b)
theorem aa0(p:Nat):((p:Int) % 8).toNat=p % 8:=("$AKt2^:xM(>mw[bn^?k{P_:F%=I&q3po6T?6M=''%",by exact jl rfl rfl rfl,("%"),by exact jN rfl rfl rfl)
theorem byteAt{pg:Pg}{p:Nat}(h:p<8*pg.length):qA pg ((p:Int)/8)=aq (pg.getD (p/8) 0):=by have l:p/8<pg.length:=("%:kdu.<?hwy8%Wl(r&#",h,rfl);have e:((p:Int)/8).toNat=p/8:=("4QM.9fX/C,7PlO(r4E$|sm7b^kYHlz&$",rfl,rfl,rfl);unfold qA;rw[mZ ("$]Amsta3q4<x$$",rfl),e,bU l,bq,bU l];rfl
theorem XQ(pg:Pg)(p:Nat):((pg.getD (p/8) 0).toNat:Int)/2^((p:Int) % 8).toNat % 2=(bitAt pg p:Int):=by rw[aa0,sf];unfold bitAt;rfl
theorem XR(pg:Pg)(p i:Nat):(mE pg p i:Int)+((pg.getD ((p+i)/8) 0).toNat:Int)/2^(((p+i:Nat):Int) % 8).toNat % 2*2^((0:Int)+i).toNat=(mE pg p (i+1):Int):=by rw[XQ,show((0:Int)+i).toNat=i by exact("6jDaobybc5)S#Y+%#",rfl),sf];show _=((mE pg p i+bitAt pg (p+i)*2^i:Nat):Int);rw[jU,jE]
theorem pD(pg:Pg)(p:Nat):bitAt pg p<2:=aO _ ("")
def SD(pg:Pg)(p:Nat)(bad pd:Bool)(lQ:Int):AO:=.sd [(42,.bytes pg),(5,.int p),(7,.bool bad),(9,.bool pd),(24,.int lQ)]
theorem KT{H:AH}{s:bp}{pg:Pg}{p lH:Nat}{b pd:Bool}{lQ:Int}{Q:V->AH->Prop}{E:AH->Prop}(hs:H s=aq (SD pg p b pd lQ))(hm:lH<=63)(hl:pg.length<=100000)
  (h1:∀v p',nU pg lH p=aq (v,p')->∀H',lY [s] H H'->H' s=aq (SD pg p' b pd lQ)->Q (.int v) H')
  (h2:nU pg lH p=aI->∀H' p',lY [s] H H'->H' s=aq (SD pg p' af pd lQ)->Q (.int 0) H')
  (h0:lH=0->p<=8*pg.length):mH 1 (.ref 257) [.ref s,.int lH] H Q E:=by
 refine nS (n:=0) I0 GU .nil rfl ?_;refine iM ("$)edNR^vKyK<QM&)iDJ[_Mz}cT#6hK$#",hm)<|lq [Option V,Int] (λ_ x z=>[aq (.ref s),aq<|.int lH,aq<|.int z,x,aI,aI]) (λi _ z h=>A4 (z=mE pg p i) (h s=aq (SD pg (p+i) b pd lQ)) (lY [s] H h)<|i=0∨p+i<=8*pg.length) ⟨_,_,⟨rfl,hs,.refl,.inl rfl⟩,rfl⟩ ?_ ?_
 .rintro i h K hi nx x z ⟨rfl,q1,q2,q3⟩;have hi:i<lH:=("'U^(Jg~X{HYyfR3+W&#",hi,rfl);refine iL q1<|iL q1<|iM ("*}]<YdUA2s.-9?,:$#",hl)<|iM (q8 ("") (""))<|iQ (λhb=>?_) λhb=>?_
  .have hb:=pN hb;refine iL q1<|iM (ak rfl) ?_;refine h2 (mT ?_) _ (p+i) (q2.upd<|.head _)<|lT _ _ _;exact("$O*eluqJks`'#$6me[$7e'#",hi,hb)
  .have hb:=pZ hb;let lt:p+i<8*pg.length:=("9KR'tN..U|i6a1-{S&#",hb);let b8:((((p+i:Nat):Int)) % 8).toNat<64:=("=%W:%e2+)Z`%y2DH9(>E&%",⟨rfl,rfl⟩,rfl);refine iL q1 (iL q1<|iM ("")<|iM ("%/-U4bW~cG6nG0,s|S'1p%sY3aQI`n&$",hl,rfl)<|iS (byteAt lt)<|iL q1<|iM ("")<|iM ⟨⟨aL _ (""),gR (aV<|aG _ ("")) ("")⟩,by decide⟩<|iM (HD b8)<|iM ("")<|iM ⟨⟨("*T`&CDV($#"),(".i;Q78>VfrL6s?)5/?-%#",hm,hi)⟩,by decide⟩<|iM ?_ ?_)
   .let:=pD pg (p+i);rw[XQ];exact q8 (".6mpl(FV)>vPFk;2.$#") ("%&iLuaKH:d*hw&PUA[8O$#",this)
   .refine iL q1 (iL q1<|iM (ak rfl)<|nx _ _ _ ⟨?_,lT _ _ _,q2.upd<|.head _,.inr lt⟩);rw[<-XR]
 .rintro h x z ⟨rfl,q1,q2,q3⟩;have e:((lH:Int)-0).toNat=lH:=("6jDaobybc)q<,~P%#",rfl);rw[e]at q1 q3⊢;refine h1 _ (p+lH) (mZ ?_) _ q2 q1;rcases q3 with q3|q3
  .subst q3;exact h0 rfl
  .exact q3
open Mine.lY renaming refl→ly
open Mine renaming bitAt→lz
theorem rC(pg:Pg)(p:Nat):∀n,mE pg p n<2^n
 |0=>jR
 |n+1=>by have a:=rC pg p n;have b:=pD pg<|p+n;show mE pg p n+lz pg (p+n)*2^n<2^(n+1);rw[jg];have c:lz pg (p+n)*2^n<=1*2^n:=kB _ ("(D}-P2[`t$#",b);exact("R:d.<%WN_WZWq6hi|&#",a,c)
structure NE(pg:Pg)(s:bp)(H:AH)(b pd:Bool)(lQ:Int)(r:Option<|Nat×Nat)(B:Nat)(Q:V->AH->Prop):Prop where
 ok:b=ag->∀v p',r=aq (v,p')->∀H',lY [s] H H'->H' s=aq (SD pg p' ag pd lQ)->Q (.int v) H'
 no:b=af∨r=aI->∀(v:Nat) H' p',v<B->lY [s] H H'->H' s=aq (SD pg p' af pd lQ)->Q (.int v) H'
section
variable{H:AH}{s:bp}{pg:Pg}{p:Nat}{b pd:Bool}{lQ:Int}{Q:V->AH->Prop}{E:AH->Prop}
theorem rN(hs:H s=aq (SD pg p b pd lQ)){lH:Nat}(hm:lH<=16)(hl:pg.length<=100000)(h0:lH=0->p<=8*pg.length)(h:NE pg s H b pd lQ (nU pg lH p) 65536 Q):mH 1 (.ref 257) [.ref s,.int lH] H Q E:=by
 refine KT hs ("2[[%,7:c=r$#",hm) hl (λv p' e H' k q=>?_) (λe H' p' k q=>h.no (.inr e) 0 H' p' ("") k q) h0;cases b with
 |false=>exact h.ok rfl v p' e H' k q
 |true=>
  refine h.no (.inl rfl) v H' p' ?_ k q;unfold nU at e;split at e
  .cases e;exact hH (rC pg p lH)<|jS (n:=2) ("") hm
  .exact pB e
def uB(pg:Pg)(p:Nat):Nat->Nat
 |0=>0
 |n+1=>2*uB pg p n+lz pg (p+n)
def yq(pg:Pg)(n p:Nat):Option (Nat×Nat):=if p+n<=8*pg.length then aq (uB pg p n,p+n)else aI
theorem vR(pg:Pg)(p:Nat):∀n,uB pg p n<2^n
 |0=>jR
 |n+1=>by have a:=vR pg p n;have b:=pD pg<|p+n;show 2*uB pg p n+lz pg (p+n)<2^(n+1);rw[jg];exact("i{L#nq{l/>O^'ir{L6&#",a,b)
theorem take1{v p':Nat}(e:nU pg 1 p=aq (v,p')):v=lz pg p/\p'=p+1/\p+1<=8*pg.length:=by
 unfold nU at e;split at e
 .cases e;refine⟨?_,rfl,by assumption⟩;show 0+lz pg (p+0)*2^0=_;rw[Nat.add_zero];exact(")m&)1|[nk~$#")
 .exact pB e
theorem CD(e:nU pg 1 p=aI):8*pg.length<p+1:=by
 unfold nU at e;split at e
 .exact rQ e
 .exact("CX>H>D4DWJii`aiw%#",(by assumption))
theorem zV{i:Nat}(h:i<=16):(2:Nat)^i<=65536:=gq (jS ("") h) ("")
theorem KU(hs:H s=aq (SD pg p b pd lQ)){lH:Nat}(hm:lH<=16)(h0:0<lH)(hl:pg.length<=100000)(h1:NE pg s H b pd lQ (yq pg lH p) 1099511627776 Q):mH 2 (.ref 283) [.ref s,.int lH] H Q E:=by
 refine nS (n:=1) I7 G3 .nil rfl ?_;refine iM ("F#9?>_AB6/HF{q?G<Md17Eg~it3Y$#",hm) (lq [Option V,Nat,Nat,Bool] (λ_ x f _ _=>[aq (.ref s),aq<|.int lH,aq<|.int f,x,aI,aI]) (λi _ f p' b' h=>A5 (h s=aq (SD pg p' b' pd lQ)) (lY [s] H h) (f+65536<=65536*2^i) (b'=ag->b=ag/\f=uB pg p i/\p'=p+i/\(i=0∨p+i<=8*pg.length))<|b'=af->b=af∨8*pg.length<p+i) ⟨_,0,p,b,⟨hs,.refl,by decide,λe=>⟨e,rfl,rfl,.inl rfl⟩,λe=>.inl e⟩,rfl⟩ ?_ ?_)
 .rintro i h K hi hK x f p' b' ⟨q1,q2,q3,q4,q5⟩;have hi:i<=16:=("<>.PA(e#$2BWM'P/OvJO&#",hm,hi,rfl);have f1:=zV hi;refine iM (q8 ("") ("")) (lw rfl (dg _)<|rN (lH:=1) q1 ("") hl (λe=>by cases e) ⟨λe v p2 e2 H' k q=>?_,λe v H' p2 hv k q=>?_⟩)
  .obtain⟨e3,e4,e5⟩:=take1 e2;obtain⟨c1,c2,c3,c4⟩:=q4 e;have bl:=pD pg p';refine hK _ (aq<|.int (0+i)) (2*f+v) p2 ag ⟨q,q2.trans k,?_,λ_=>⟨c1,?_,(".{Yl`b{$KgHd9d-aiKH?v^{'#",e4,c3),.inr ("]R-vzWru9zu5cGfB~ks+7D7'#",e5,c3)⟩,λe=>by cases e⟩
   .rw[jg];exact("I{[Mh~/.EDmIx8dlPTx^XZ>D,7yKvmW`Ku79Wz?e'#",q3,e3,bl)
   .rw[e3,c2,c3];rfl
  .refine hK _ (aq<|.int (0+i)) (2*f+v) p2 af ⟨q,q2.trans k,?_,λe=>by(cases e),λ_=>?_⟩
   .rw[jg];exact("'t6Bf5zjT-wMGvr#u?5$*9HqAsZR>9}(v)<krvVh&#",q3,hv)
   .rcases e with e|e
    .rcases q5 e with c|c
     .exact .inl c
     .exact .inr ("PwI/Kc~c1KcSGMg&z&#",c)
    .have:=CD e;cases b' with
     |true=>
      rcases q5 rfl with c|c
      .exact .inl c
      .exact .inr ("PwI/Kc~c1KcSGMg&z&#",c)
     |false=>obtain⟨_,_,c,_⟩:=q4 rfl;exact .inr ("h<t0RTk.f]O/wbAoi^>&>5'#",this,c)
 .rintro h x f p' b' ⟨q1,q2,q3,q4,q5⟩;have e:((lH:Int)-0).toNat=lH:=("6jDaobybc)q<,~P%#",rfl);rw[e]at q3 q4 q5;cases b' with
  |false=>
   obtain⟨c1,c2,c3,c4⟩:=q4 rfl;rw[c2];refine h1.ok c1 _ _ (mZ ("_lN.dIF)DH[Nx+OT1ju]{0ed&#",h0,c4)) h q2 ?_;refine c3▸?_;exact q1
  |true=>
   have f1:=zV hm;refine h1.no ?_ f h p' (Nat.lt_of_le_of_lt (gq (gq (jz f 65536) q3)<|Nat.mul_le_mul_left 65536 f1) ("")) q2 q1;rcases q5 rfl with c|c
   .exact .inl c
   .exact .inr (mT ("CUyL[Q2Xe?M#CWmS&#",c))
end
def NL(l:List Nat):AO:=.list (l.map λ(n:Nat)=>iR n)
theorem pE{l:List Nat}{i:Nat}(h:i<l.length):qA (l.map λ(n:Nat)=>iR n) (i:Int)=aq (.int (l.getD i 0:Nat)):=by unfold qA;rw[mZ ("Ao/DVr$#"),show((i:Int)).toNat=i by exact("s4RlOb-;:~iss%#",rfl),cj,bU h,bq,bU h];rfl
def ou(cnt:List Nat)(i:Nat):Nat:=((cnt.drop 1).take i).sum
theorem qR{cnt:List Nat}{i:Nat}(h:i+1<cnt.length):ou cnt (i+1)=ou cnt i+cnt.getD (i+1) 0:=by unfold ou;rw[j7,kq,gS,bq,kj 1 i];cases cnt[i+1]?<;>simp
theorem tC(cnt:List Nat){i j:Nat}(h:i<=j):ou cnt i<=ou cnt j:=by
 unfold ou;let:(cnt.drop 1).take j=(cnt.drop 1).take i++((cnt.drop 1).take j).drop i:=by
  let e:(cnt.drop 1).take i=((cnt.drop 1).take j).take i:=by rw[kM,iE h]
  rw[e,List.take_append_drop]
 rw[this,kq];exact("yu0nqh/%#")
structure J5(cnt sg:List Nat):Prop where
 l:cnt.length=16
 s:ou cnt 15<=sg.length
 m:sg.length<=1000
 b:∀x∈sg,x<1000
def zW(pg:Pg)(cnt sg:List Nat):Nat->Nat->Nat->Nat->Nat->Nat->Option (Nat×Nat)
 |0,_,_,_,_,_=>aI
 |f+1,size,code,first,DV,p=>if p<8*pg.length then
   (if 2*code+lz pg p<first+cnt.getD size 0 then aq (sg.getD (DV+(2*code+lz pg p-first)) 0,p+1)
   else zW pg cnt sg f (size+1) (2*code+lz pg p) (2*(first+cnt.getD size 0)) (DV+cnt.getD size 0)<|p+1)
  else aI
theorem qr{pg:Pg}{cnt sg:List Nat}(f size code first DV p:Nat):zW pg cnt sg (f+1) size code first DV p=if p<8*pg.length then
   (if 2*code+lz pg p<first+cnt.getD size 0 then aq (sg.getD (DV+(2*code+lz pg p-first)) 0,p+1)
   else zW pg cnt sg f (size+1) (2*code+lz pg p) (2*(first+cnt.getD size 0)) (DV+cnt.getD size 0)<|p+1)
  else aI:=rfl
def pG(pg:Pg)(cnt sg:List Nat)(p:Nat):Option (Nat×Nat):=zW pg cnt sg 15 1 0 0 0 p
section
variable{H:AH}{s:bp}{pg:Pg}{p:Nat}{b pd:Bool}{lQ:Int}{Q:V->AH->Prop}{E:AH->Prop}
theorem FA{bk c t:bp}{cnt sg:List Nat}(hs:H s=aq (SD pg p b pd lQ))(hb:H bk=aq (.tup [.ref c,.ref t]))(hc:H c=aq (NL cnt))(ht:H t=aq (NL sg))(ok:J5 cnt sg)(hl:pg.length<=100000)
  (h1:NE pg s H b pd lQ (pG pg cnt sg p) 1 Q):mH 2 (.ref 276) [.ref s,.ref bk] H Q E:=by
 have ne:∀{a:bp}{o:AO},H a=aq o->(∀es,o≠.sd es)->a∉[s]:=λh n m=>by obtain rfl:=aH.mp m;let h:=hs▸h;obtain rfl:=(qz h).symm;exact n _ rfl
 let nb:=ne hb (λes e=>by cases e);have nc:=ne hc (λes e=>by cases e);have nt:=ne ht (λes e=>by cases e);refine nS (n:=1) I5 zP .nil rfl ?_;refine iM (ak rfl)<|iP λa0 rR=>iL (lT _ _ _) ?_;refine iM ("") (lq [Option V,Nat,Nat,Nat,Nat] (λ_ x code first _ sp=>[aq (.ref s),aq<|.ref bk,aq<|.int code,aq<|.int first,aq<|.int sp,x,aI,aI]) (λi _ code first p' sp h=>A8 (i<=15) (sp=ou cnt i) (h s=aq (SD pg p' b pd lQ)) (lY [s] H h) (first<=2*code) (code<2^i) (first<=1000*2^(i+1))<|b=ag->pG pg cnt sg p=zW pg cnt sg (15-i) (i+1) code first (ou cnt i) p') ⟨aI,0,0,p,0,⟨by decide,rfl,?_,?_,dg _,by decide,by decide,λ_=>rfl⟩,rfl⟩ ?_ ?_)
 .let:s≠a0:=λe=>by let rR:=bF (e)▸rR;have rR:=hs▸rR;cases rR
  rw[lV this];exact hs
 .exact lY.refl.new rR
 .rintro i h K hi hK x code first p' sp ⟨J6,rfl,q1,q2,q3,q4,q5,q6⟩
  have hi:i<15:=hi;let p1:=zV (i:=i) ("(JP`>vRT4$#",hi);let p3:=zV (i:=i+1) ("$ER&T]aw{Y|$#",hi);let e1:(1:Int)+i=((i+1:Nat):Int):=("'p8Cwyyj[q($#");refine iM (q8 ("") ("")) (lw rfl (dg _)<|rN (lH:=1) q1 ("") hl (λe=>by cases e) ⟨λe v p2 e2 H' k q=>?_,λe v H' p2 hv k q=>?_⟩)
  .subst e;let e3:=(take1 e2).1;let e4:=(take1 e2).2.1;let e5:=(take1 e2).2.2;have bl:=pD pg p';have q7:=q2.trans k;have NC:=q7 _ _ hb nb;have hc':=q7 _ _ hc nc;have Pq:=q7 _ _ ht nt;have cl:i+1<cnt.length:=by rw[ok.l];exact("$ER&T]j,H{A$#",hi)
   have ps:=qR cl;have pm:=tC cnt (i:=i+1) (j:=15) ("$EIa;+:tzgU$#",hi);have ob:=ok.s;let om:=ok.m;let gc:=pE cl;refine iL q (iQ (λhb=>by exact xL hb) λ_=>?_);rw[e1];refine iL NC<|iS (v:=.ref c) rfl<|iL hc'<|iS gc<|iQ (λrz=>?_) λrz=>?_
   .have rz:=pN rz;have Tv:=q6 rfl;rw[show 15-i=(14-i)+1 by exact("N=52*-H|tfIG[X+M/z)tZ+[z47d&#",hi,rfl,rfl),qr,mZ ("*mU1)Dd}.EG1YD%#",e5),<-e3,mZ ("(hXP(BB%ap~Y~Q`9twp[%'#",rz)]at Tv;have gt:=pE (l:=sg) (i:=ou cnt i+(2*code+v-first)) ("(5rf0u8jDYz-&|KP.f_[C3HK%<$|R'<kM|gE4/%ZA?+CR-Y,#",q3,ps,pm,ob,rz,rfl);have gt:=(show((ou cnt i+(2*code+v-first):Nat):Int)=(ou cnt i:Int)+(2*(code:Int)+v)-first by exact("%j4rwuW?nR+Y_}.C&VCBUvq*Oql(T}Phg3I(#",q3,rfl))▸gt;refine iL NC<|iS (v:=.ref t) rfl<|iL Pq<|iS gt ?_;have q:=e4▸q;exact h1.ok rfl _ _ Tv _ q7 q
   .have rz:=pZ rz;have Tv:=q6 rfl;rw[show 15-i=(14-i)+1 by exact("N=52*-H|tfIG[X+M/z)tZ+[z47d&#",hi,rfl,rfl),qr,mZ ("*mU1)Dd}.EG1YD%#",e5),<-e3,mT ("3D8>A3<I[.&#gr<j~>PI{i'#",rz)]at Tv;refine iL NC<|iS (v:=.ref c) rfl<|iL hc'<|iS gc<|iL NC<|iS (v:=.ref c) rfl<|iL hc'<|iS gc<|iM (q8 ("") (""))<|iM (ak rfl)<|iP λa1 wR=>iL (lT _ _ _)<|hK _ (aq<|.int ((i+1:Nat):Int)) (2*code+v) (2*(first+cnt.getD (i+1) 0)) p2 (ou cnt i+cnt.getD (i+1) 0) ?_;let cb:cnt.getD (i+1) 0<=1000:=("0W[7MLgNw<$rfB~#|y`:0Iv<>O(#",ps,pm,ob,om);let ns:s≠a1:=λe=>by let wR:=bF (e)▸wR;let wR:=q▸wR;exact rQ wR
    refine⟨("$EIa;+:tzgU$#",hi),ps.symm,?_,q7.new wR,("+2[?_Wzx>pQ'YaX=v<VpfO/gz-'#",rz),?_,?_,λ_=>?_⟩
    .rw[lV ns];exact q
    .rw[jg];exact("'<l|^#Dk-xzz78Sb[6s^{H'#",q4,e3,bl)
    .have pp:=jg (n:=2) (m:=i);have le:first+cnt.getD (i+1) 0<=2^(i+1):=by
      have l1:first+cnt.getD (i+1) 0<=2*code+v:=("$$sbiE2I>8:v|'NpjE0:.5'#",rz)
      refine gq l1 ?_;have l2:v<=1:=("ClbTp%?Ca#_1%#",e3,bl);rw[pp];clear l1 rz q5 pp;exact("'<l|^#Dk-xzi=XJcWP#&ae'#",q4,e3,bl)
     rw[jg];clear rz q3 q4;exact("&<gg'#;3v}3cFJD_a4yXh8&#",le)
    .rw[Tv];rw[ps];rw[e4];exact bF (show 15-(i+1)=14-i by exact("i5z[SsN,#kM[h;kwjL9._'}./%v{5t&#",rfl,rfl))▸rfl
  .have q7:=q2.trans k;refine iL q (iQ (λ_=>?_) λhb=>by exact Nu hb);refine h1.no ?_ 0 H' p2 ("") q7 q;rcases e with e|e
   .exact .inl e
   .cases b with
    |true=>exact .inl rfl
    |false=>
     let:=CD e;let Tv:=q6 rfl;rw[show 15-i=(14-i)+1 by exact("N=52*-H|tfIG[X+M/z)tZ+[z47d&#",hi,rfl,rfl),qr,mT ("$Fm3${'N&$?R)NZ%#",this)]at Tv;exact .inr Tv
 .rintro h x code first p' sp ⟨J6,_,q1,q2,q3,q4,q5,q6⟩
  refine iL q1<|iM (ak rfl)<|h1.no ?_ 0 _ p' ("") (q2.upd<|.head _)<|lT _ _ _;cases b with
  |true=>exact .inl rfl
  |false=>exact .inr (q6 rfl)
end
def sh(pg:Pg)(p:Nat):Option (Nat×Nat):=match yq pg 7 p with
 |none=>aI
 |some (c,p)=>if c<24 then aq (256+c,p)else if p+1<=8*pg.length then
   (if 2*c+lz pg p<192 then aq (2*c+lz pg p-48,p+1)else if 2*c+lz pg p<200 then aq (2*c+lz pg p+88,p+1)
   else if p+2<=8*pg.length then aq (2*(2*c+lz pg p)+lz pg (p+1)-256,p+2)else aI)else aI
def nL(k:Nat):Nat×Nat:=if k=28 then(258,0)else if k<4 then(3+k,0)else((4+k % 4)*2^(k/4-1)+3,k/4-1)
def pf(k:Nat):Nat×Nat:=if k<2 then(1+k,0)else((2+k % 2)*2^(k/2-1)+1,k/2-1)
theorem mO.t{p q:Prop}(h:p):mO af p q:=.intro (λ_=>h) λe=>by exact Nu e
theorem mO.f{p q:Prop}(h:q):mO ag p q:=.intro (λe=>by exact xL e) λ_=>h
section
variable{H:AH}{s:bp}{pg:Pg}{p:Nat}{b pd:Bool}{lQ:Int}{Q:V->AH->Prop}{E:AH->Prop}
theorem RX{k:Nat}(hk:k<=28)(h:∀a H',lY [] H H'->H a=aI->H' a=aq (.tup [.int (nL k).1,.int (nL k).2])->Q (.ref a) H'):mH 1 (.ref 297) [.int k] H Q E:=by
 refine nS (n:=0) I9 G4 .nil rfl ?_;have fin:∀a,H a=aI->∀x y:Int,x=(nL k).1->y=(nL k).2->Q (.ref a) (upd H a<|.tup [.int x,.int y]):=λa ha x y ex ey=>by subst ex ey;exact h a _ (lY.refl.new ha) ha<|lT _ _ _
 let last:k=28->∀a,H a=aI->Q (.ref a) (upd H a<|.tup [.int 258,.int 0]):=λe a ha=>fin a ha _ _ (by subst e;rfl) (by subst e;rfl);let few:k<4->∀a,H a=aI->Q (.ref a) (upd H a<|.tup [.int (3+k),.int 0]):=λl a ha=>fin a ha _ _ (by unfold nL;rw[mT ("$3[Z<EYnaMS$#",l),mZ l];rfl) (by unfold nL;rw[mT ("$3[Z<EYnaMS$#",l),mZ l];rfl);refine iQ (λe=>mO.t ?_) λe=>iQ (λe'=>mO.t ?_) λe'=>mO.f ?_
 .have e:=pN e;refine iQ (λe=>?_) λe=>?_
  .let e:=pN e;exact iM (ak rfl)<|iP<|last ("$ye*{1v8rT$2$#",e)
  .exact iM (ak rfl) (iP<|few ("O%`HhYWA.$#",(by assumption)))
 .let e:=pN e';refine iQ (λe=>?_) λe=>?_
  .exact iM (ak rfl) (iP<|last ("$ye*{1v8rT$2$#",(by assumption)))
  .let e:=pZ e;exact(e ("2Scd`Ar=I^HQ$#",(by assumption))).elim
 .have e:=pZ e;let e':=pZ e';let b4:((k:Int)/4-1).toNat=k/4-1:=("$g6w$3z{6OeUS_40}%D,#%CA[EY7/]?IC>}AI^zK;5=)*4Rf_.OYY=7'$",("%"),("%"),("%"),rfl);let b5:k/4-1<64:=(")`'Y{qH5Q-T)vNqL$Fnz+Y#d&#",hk,("%"),rfl);refine iM ("") (iM ("")<|iM ⟨⟨("0-VEyuZLV%rB>9i*6[$$",e,("%")),("Y'lwQ,#yeUaE]H$DlGmr$$",hk,("%"))⟩,by decide⟩<|iM (q8 ("1YLTU=JSZ`hw5P%W&VMg*e3M$%",⟨rfl,rfl⟩) ("%%rd7Sq)IKenqjv-*XsR4PyE$%",⟨rfl,rfl⟩))<|iM ("")<|iM (ak rfl)<|iP λa ha=>fin a ha _ _ ?_ ?_)
  .unfold nL;rw[mT ("(R{=^+F1X>4td$#",e'),mT ("$DGV~(Y?T:`$#",e),b4,sf];rw[jU,jE,show((4+k % 4:Nat):Int)=4+(k:Int) % 4 by exact("5E,;0=A5qOF$:MM/(6z6T,0&Wu-MtjzH2Y&%",by exact jN rfl rfl rfl,by exact jl rfl rfl rfl)];rfl
  .unfold nL;rw[mT ("(R{=^+F1X>4td$#",e'),mT ("$DGV~(Y?T:`$#",e)];exact(Int.toNat_of_nonneg ("0-VEyuZLV%rB>9i*6[$$",e,("%"))).symm.trans (congrArg Nat.cast b4)
theorem Ps{k:Nat}(hk:k<=29)(h:∀a H',lY [] H H'->H a=aI->H' a=aq (.tup [.int (pf k).1,.int (pf k).2])->Q (.ref a) H'):mH 1 (.ref 304) [.int k] H Q E:=by
 refine nS (n:=0) MJ Ja .nil rfl ?_;have fin:∀a,H a=aI->∀x y:Int,x=(pf k).1->y=(pf k).2->Q (.ref a) (upd H a<|.tup [.int x,.int y]):=λa ha x y ex ey=>by subst ex ey;exact h a _ (lY.refl.new ha) ha<|lT _ _ _
 refine iQ (λe=>?_) λe=>?_
 .have e:=pN e;refine iM (ak rfl) (iP λa ha=>fin a ha _ _ ?_ ?_)<;>(unfold pf;rw[mZ ("N{jiaH3EK$#",e)])
  .rfl
  .rfl
 .have e:=pZ e;let b4:((k:Int)/2-1).toNat=k/2-1:=(">MN4*UV`a~b9v*=>=GeUvhKH24ebTai10SmTak9kbr#[[D3A'{C`='$",("%"),("%"),("%"),rfl);refine iM ("") (iM ("")<|iM ⟨⟨(")c]v[~gciT*(pM_}h6$$",e,("%")),(">)ozwMG<]r^K#S?#,x<G$$",hk,("%"))⟩,by decide⟩<|iM (q8 ("1YLB^-oBMIV5'xB;gq7U&zwv$%",⟨rfl,rfl⟩) ("%%rd7Sq)IKenqjuxC&a'g*5$$%",⟨rfl,rfl⟩))<|iM ("")<|iM (ak rfl)<|iP λa ha=>fin a ha _ _ ?_ ?_)<;>(unfold pf;rw[mT ("$D5oK}&kx`|$#",e)])
  .rw[b4,sf];rw[jU,jE,show((2+k % 2:Nat):Int)=2+(k:Int) % 2 by exact("'Y;ql}+~+}XyHBgoMAZJ/up~G3j:6{Bf=p&%",by exact jN rfl rfl rfl,by exact jl rfl rfl rfl)];rfl
  .exact(Int.toNat_of_nonneg (")c]v[~gciT*(pM_}h6$$",e,("%"))).symm.trans (congrArg Nat.cast b4)
theorem Pt(hs:H s=aq (SD pg p b pd lQ))(hl:pg.length<=100000)(h1:NE pg s H b pd lQ (sh pg p) 1000000000000000 Q):mH 3 (.ref 290) [.ref s] H Q E:=by
 refine nS (n:=2) zy ym .nil rfl ?_;refine lw rfl (dg _)<|KU (lH:=7) hs ("") ("") hl ⟨λe v p2 e2 H' k q=>?_,λe v H' p2 hv k q=>?_⟩
 .subst e;have e3:v<128:=by
   unfold yq at e2;split at e2
   .cases e2;exact vR pg p 7
   .cases e2
  have pe:sh pg p=if v<24 then aq (256+v,p2)else if p2+1<=8*pg.length then
   (if 2*v+lz pg p2<192 then aq (2*v+lz pg p2-48,p2+1)else if 2*v+lz pg p2<200 then aq (2*v+lz pg p2+88,p2+1)
   else if p2+2<=8*pg.length then aq (2*(2*v+lz pg p2)+lz pg (p2+1)-256,p2+2)else aI)else aI:=by
   unfold sh;exact bF e2▸rfl
  refine iQ (λc=>?_) λc=>?_
  .let c:=pN c;rw[mZ ("ObQrUSLq$$#",c)]at pe;exact h1.ok rfl _ _ pe H' k q
  .have c:=pZ c;rw[mT ("$F9{Kv+ZZ7U$#",c)]at pe;refine iM (q8 ("") ("")) (lw rfl ("")<|rN (lH:=1) q ("") hl (λe=>by cases e) ⟨λ_ v1 p3 e4 H2 k2 q2=>?_,λe v1 H2 p3 hv k2 q2=>?_⟩)
   .obtain⟨e5,e6,e7⟩:=take1 e4;subst e6;have pe:=(mZ e7)▸pe;have pe:=bF (e5)▸pe;have b1:=pD pg p2;have k3:=k.trans k2;refine iQ (λc=>?_) λc=>iQ (λc'=>?_) λc'=>?_
    .have c:=pN c;rw[mZ ("%'s3V^LTE)1_Rs2M5iRJ%#",c)]at pe;let:=h1.ok rfl _ _ pe H2 k3 q2;let this:=(show((2*v+v1-48:Nat):Int)=2*(v:Int)+v1-48 by exact("$<$}1qj^w0<J+&F1WSPl}Nt8x$;a23xvQ&#",(by assumption),rfl))▸this;exact this
    .let c:=pZ c;let c':=pN c';rw[mT ("(pqG-&I>X$Wu^_'-5IL%J%#",c),mZ ("%(#^G99z4Q&Xa>#hr[p3%#",c')]at pe;exact h1.ok rfl _ _ pe H2 k3 q2
    .have c:=pZ c;have c':=pZ c';rw[mT ("(pqG-&I>X$Z$+kIgwv$n/%#",c'),mT ("(q8n9:>;Afmb/kvp;Wh&3%#",c')]at pe;refine iM (q8 ("") ("")) (lw rfl ("")<|rN (lH:=1) q2 ("") hl (λe=>by cases e) ⟨λ_ v2 p4 e8 H3 k4 q4=>?_,λe v2 H3 p4 hv k4 q4=>?_⟩)
     .let e9:=(take1 e8).1;let WV:=(take1 e8).2.1;let e11:=(take1 e8).2.2;subst WV;let pe:=(mZ e11)▸pe;let pe:=bF (e9)▸pe;let:=h1.ok rfl _ _ pe H3 (k3.trans k4) q4;let this:=(show((2*(2*v+v1)+v2-256:Nat):Int)=2*(2*(v:Int)+v1)+v2-256 by exact("$F8AM4^jDU4[0b&4Ru;c:KV93Y8ydOu7&:B(kpJq$VQ#vF?'#",c',rfl))▸this;exact this
     .have no:ag=af∨sh pg p=aI:=by
       rcases e with e|e
       .cases e
       .let:=CD e;rw[mT ("*}'EgCTI{xFI.4newZ%#",this)]at pe;exact .inr pe
      let z:=h1.no no (2*(2*v+v1)+v2-256) H3 p4 ("O0#$^DfQzV,>g5c9CkN(^%z`~k-l9<}lNG0j/xO:E?19TkUl4X4(#",e3,e5,b1,hv,rfl) (k3.trans k4) q4;let z:=(show((2*(2*v+v1)+v2-256:Nat):Int)=2*(2*(v:Int)+v1)+v2-256 by exact("$F8AM4^jDU4[0b&4Ru;c:KV93Y8ydOu7&:B(kpJq$VQ#vF?'#",c',rfl))▸z;exact z
   .have no:ag=af∨sh pg p=aI:=by
     rcases e with e|e
     .cases e
     .let:=CD e;rw[mT ("CUyLXs1G>3$EcViw%#",this)]at pe;exact .inr pe
    refine iQ (λc=>?_) λc=>iQ (λc'=>?_) λc'=>?_
    .let:=h1.no no (2*v+v1-48) H2 p3 ("MneZ'h`/^`ejU4giPectsg/(#jjX6q1fim+V2&#",e3,hv,rfl) (k.trans k2) q2;let this:=(show((2*v+v1-48:Nat):Int)=2*(v:Int)+v1-48 by exact("$<$}1qj^w0<J+&F1WSPl}Nt8x$;a23xvQ&#",(by assumption),rfl))▸this;exact this
    .exact h1.no no (2*v+v1+88) H2 p3 ("I?^C&6VX;|v*UE]1>8J02H0UX7^~'12X%#",e3,hv) (k.trans k2) q2
    .have c:=pZ c;have c':=pZ c';refine iM (q8 ("") ("")) (lw rfl ("")<|rN (lH:=1) q2 ("") hl (λe=>by cases e) ⟨λe=>(by cases e),λe v2 H3 p4 F2 k4 q4=>?_⟩);let:=h1.no no (2*(2*v+v1)+v2-256) H3 p4 ("8b(bT8.+9f/#}T{|p/(&_Jp$GN[;f{|[Tdu|}t}cAs*L|<1C1'#",e3,hv,F2,rfl) ((k.trans k2).trans k4) q4;let this:=(show((2*(2*v+v1)+v2-256:Nat):Int)=2*(2*(v:Int)+v1)+v2-256 by exact("$F8AM4^jDU4[0b&4Ru;c:KV93Y8ydOu7&:B(kpJq$VQ#vF?'#",c',rfl))▸this;exact this
 .have no:b=af∨sh pg p=aI:=by
   rcases e with e|e
   .exact .inl e
   .refine .inr ?_;unfold sh;exact bF e▸rfl
  refine iQ (λc=>?_) λc=>?_
  .let:=h1.no no (256+v) H' p2 (")(j-=|xq>n;}tsV8xx,;6w<yjd:$#",hv) k q;exact this
  .have c:=pZ c;refine iM (q8 ("") ("")) (lw rfl ("")<|rN (lH:=1) q ("") hl (λe=>by cases e) ⟨λe=>(by cases e),λe v1 H2 p3 F1 k2 q2=>?_⟩);refine iQ (λc=>?_) λc=>iQ (λc'=>?_) λc'=>?_
   .let:=h1.no no (2*v+v1-48) H2 p3 ("ap.[G1~CqL3Gk2zF~~%y]pp?$6s$9ut]}kk?;/#nH[&#",hv,F1,rfl) (k.trans k2) q2;let this:=(show((2*v+v1-48:Nat):Int)=2*(v:Int)+v1-48 by exact("$<$}1qj^w0<J+&F1WSPl}Nt8x$;a23xvQ&#",(by assumption),rfl))▸this;exact this
   .exact h1.no no (2*v+v1+88) H2 p3 ("Z<qjUqn94Pq,yK;p#yIfvMjVaz8eQyKH~8syN%#",hv,F1) (k.trans k2) q2
   .let c:=pZ c;have c':=pZ c';refine iM (q8 ("") ("")) (lw rfl ("")<|rN (lH:=1) q2 ("") hl (λe=>by cases e) ⟨λe=>(by cases e),λe v2 H3 p4 F2 k4 q4=>?_⟩);let:=h1.no no (2*(2*v+v1)+v2-256) H3 p4 ("CT8?ZiU:|86}zzDUpNo7EB_+b4+j2N+9aE[ez1N|z3q:5fl~MvGdhV'#",hv,F1,F2,rfl) ((k.trans k2).trans k4) q4;let this:=(show((2*(2*v+v1)+v2-256:Nat):Int)=2*(2*(v:Int)+v1)+v2-256 by exact("$F8AM4^jDU4[0b&4Ru;c:KV93Y8ydOu7&:B(kpJq$VQ#vF?'#",c',rfl))▸this;exact this
end
open Mine.mO renaming t→lC,f→lD
def Ii(lU:List Nat)(i:Nat):List (Nat×Nat):=(gk i).filterMap λk=>if 0<lU.getD k 0 then aq (lU.getD k 0,k)else aI
theorem Pu(lU:List Nat)(i:Nat):Ii lU (i+1)=Ii lU i++(if 0<lU.getD i 0 then[(lU.getD i 0,i)]else[]):=by
 unfold Ii;rw[kr];rw[List.filterMap_append];congr 1;rw[List.filterMap_cons];by_cases h:0<lU.getD i 0
 .rw[mZ h];rw[mZ h];rfl
 .rw[mT h];rw[mT h];rfl
def KV(p:Nat×Nat):Int×Int:=(p.1,p.2)
theorem qC{lU:List Nat}{i:Nat}{x:V}(h:(lU.map λ(n:Nat)=>iR n)[i]?=aq x):i<lU.length/\x=.int (lU.getD i 0:Nat):=by
 have h:=cj▸h;cases e:lU[i]? with
 |none=>let h:=e▸h;exact pB h
 |some y=>
  let h:=e▸h;obtain rfl:=qz h;exact⟨(bZ.mp e).1,by refine bF bq▸?_;rw[e];rfl⟩
theorem CE{l:bp}{lU:List Nat}{te:NA}{tv:Loc->AH->(AH->Prop)->(Bool->AH->Prop)->Prop}{el:Loc->AH->(AH->Prop)->(V->AH->Prop)->Prop}{H:AH}{Q:V->AH->Prop}{l0:Loc}{o a b:Option V}(el0:l0=[o,a,b])
  (h1:∀{tt:bp}{k x:Int}{a b:Option V}{h:AH}{K:Loc->AH->Prop},h tt=aq (.tup [.int k,.int x])->K [o,aq<|.int k,aq<|.int x] h->te (.ref tt) [o,a,b] h E0 K)
  (h2:∀{k x:Int}{h:AH}{T:Bool->AH->Prop},T (decide<|0<x) h->tv [o,aq<|.int k,aq<|.int x] h E0 T)
  (h3:∀{k x:Int}{h:AH}{Q:V->AH->Prop},(∀a,h a=aI->Q (.ref a) (upd h a<|.tup [.int x,.int k]))->el [o,aq<|.int k,aq<|.int x] h E0 Q)
  (hl:H l=aq (NL lU))(hn:lU.length<=1000)
  (hQ:∀D H'(ps:List<|bp×Int×Int),lY [] H H'->H D=aI->H' D=aq (.list (lp ps))->(∀p∈ps,H' p.1=aq (.tup [.int p.2.1,.int p.2.2]))->ps.map (·.2)=(Ii lU lU.length).map KV->Q (.ref D) H'):
  px (.E l (lU.map λ(n:Nat)=>iR n)) te tv el l0 H Q:=by
 subst el0;refine lu [Option V,Option V,List<|bp×Int×Int] (λ_ _ a b _=>[o,a,b]) (λD i _ _ ps h=>A5 (lY [] H h) (h D=aq (.list (lp ps))) (∀p∈ps,h p.1=aq (.tup [.int p.2.1,.int p.2.2])) (ps.map (·.2)=(Ii lU i).map KV)<|i<=1000) (λ_ hD=>⟨a,b,[],⟨lY.refl.new hD,lT _ _ _,(λ_ m=>by cases m),rfl,aR _⟩,rfl⟩) ?_ ?_ ?_
 .intro D hD i h a b ps jj;let k:=jj.1;exact k _ _ hl iN
 .rintro D hD i h K hK a b ps ⟨k,q1,q2,q3,q4⟩ x tt hx ht;obtain⟨lt,rfl⟩:=qC hx;have hi:i+1<=1000:=("%)'MH|U'a}OHp$V3K/%#",hn,lt);have dt:D≠tt:=λe=>by let ht:=bF (e)▸ht;have ht:=q1▸ht;cases ht
  let k1:=k.new (o:=.tup [.int i,.int (lU.getD i 0:Nat)]) ht;have p1:∀p∈ps,p.1≠tt:=λp m e=>by let:=q2 p m;rw[e,ht]at this;exact pB this
  let el:=Pu lU i;refine h1 (lT _ _ _)<|h2<|iQ (λc=>h3 λa2 xB=>?_) λc=>?_
  .have c:=pN c;rw[mZ ("NuS/|py:x$#",c)]at el;let ta:a2≠tt:=λe=>by rw[e,lT]at xB;exact rQ xB
   have da:D≠a2:=λe=>by let xB:=bF (e)▸xB;let xB:=(lV dt)▸xB;let xB:=q1▸xB;exact rQ xB
   refine iL (o:=.list (lp ps)) (by rw[lV da];rw[lV dt];exact q1)<|iM ?_<|hK _ _ _ (ps++[(a2,((lU.getD i 0:Nat):Int),(i:Int))]) ⟨?_,?_,?_,?_,hi⟩
   .let e1:=congrArg iD q3;let e2:(Ii lU i).length<=i:=gq (jq _ _) (by rw[iU];exact dg _);rw[cF,cF]at e1;unfold lp;rw[cF];exact("T7SRV~HyfX7[NbrW/KSRS^b&#",hi,e1,e2)
   .intro x ox hx m;have hxD:x≠D:=λe=>by let hx:=e▸hx;let hx:=hD▸hx;exact pB hx
    rw[lV hxD];exact(k1.new xB) x ox hx m
   .rw[lT];unfold lp;rw[i6];rfl
   .intro p m;rcases aE.mp m with m|m
    .let e1:=q2 p m;let nt:=p1 p m;have na:p.1≠a2:=λe=>by have xB:=bF (e)▸xB;let xB:=(lV nt)▸xB;let xB:=e1▸xB;exact rQ xB
     have nD:p.1≠D:=λe=>by let e1:=e▸e1;have e1:=q1▸e1;cases e1
     rw[lV nD];rw[lV na];rw[lV nt];exact e1
    .rw[aH.mp m];rw[lV da.symm,lT]
   .rw[el];rw[i6];rw[i6];rw[q3];rfl
  .let c:=pZ c;rw[mT ("$D$',b3=4(.$#",c),ju]at el;refine hK _ _ _ ps ⟨k1,?_,λp m=>?_,?_,hi⟩
   .rw[lV dt];exact q1
   .refine bF (lV<|p1 p m)▸?_;exact q2 p m
   .rw[el];exact q3
 .intro D hD h a b ps jj;let k:=jj.1;let q1:=jj.2;let q2:=jj.3;let q3:=jj.4;let q4:=jj.5;refine hQ D h ps k hD q1 q2 ?_;let:(CM.E l<|lU.map λ(n:Nat)=>iR n).len=lU.length:=cF _;let q3:=this▸q3;exact q3
def idxs(lU:List Nat)(s:Nat):List Nat:=(gk lU.length).filter λk=>lU.getD k 0==s
def u9(lU:List Nat):List (Nat×Nat):=(gk 15).flatMap λs=>(idxs lU<|s+1).map λk=>(s+1,k)
def oO(lU:List Nat):List Nat:=(u9 lU).map (·.2)
def Pv(p q:Nat×Nat):Prop:=p.1<q.1∨(p.1=q.1/\p.2<q.2)
theorem yr{lU:List Nat}{p:Nat×Nat}:p∈u9 lU↔1<=p.1/\p.1<=15/\p.2<lU.length/\lU.getD p.2 0=p.1:=by
 unfold u9 idxs;simp only[List.mem_flatMap,jy,ef,List.mem_filter,beq_iff_eq];constructor
 .rintro⟨s,h1,k,⟨h2,h3⟩,rfl⟩;exact⟨Nat.le_add_left _ _,h1,h2,h3⟩
 .intro jj;let h1:=jj.1;let h2:=jj.2.1;let h3:=jj.2.2.1;let h4:=jj.2.2.2;exact⟨p.1-1,("pCg*V6ub{cWx4p#Ac1qcC{?kzB8(#",jj,rfl),p.2,⟨h3,("Og*3Ag64EvVS$QVE*'7L*OKnI0y0i-2Zb(#",jj,rfl)⟩,Prod.ext (Nat.sub_add_cancel h1) rfl⟩
theorem FC{lU:List Nat}{p:Nat×Nat}:p∈Ii lU lU.length↔0<p.1/\p.2<lU.length/\lU.getD p.2 0=p.1:=by
 unfold Ii;simp only[List.mem_filterMap,jy];constructor
 .rintro⟨k,h1,h2⟩;split at h2
  .obtain rfl:=qz h2;exact⟨by assumption,h1,rfl⟩
  .exact pB h2
 .intro jj;let h1:=jj.1;let h2:=jj.2.1;let h3:=jj.2.2;exact⟨p.2,h2,by rw[h3];exact bF (mZ h1)▸rfl⟩
theorem vS(lU:List Nat):(u9 lU).Pairwise Pv:=by
 unfold u9;rw[List.pairwise_flatMap];refine⟨λs _=>?_,?_⟩
 .rw[jf];exact(List.Pairwise.filter _ List.pairwise_lt_range).imp λh=>.inr ⟨rfl,h⟩
 .refine List.pairwise_lt_range.imp λ{s t} h p hp q hq=>?_;obtain⟨_,_,rfl⟩:=ef.mp hp;obtain⟨_,_,rfl⟩:=ef.mp hq;exact .inl (Nat.succ_lt_succ h)
theorem RY{p q:Nat×Nat}(h:Pv p q):p≠q:=by rintro rfl;unfold Pv at h;exact("'[gQuXv)`LHAN=1%#",h)
theorem xC(lU:List Nat):∀i,(Ii lU i).Pairwise λp q=>p.2<q.2:=by
 intro i;unfold Ii;rw[List.pairwise_filterMap];refine List.pairwise_lt_range.imp λ{a b} h p hp q hq=>?_;split at hp
 .obtain rfl:=qz hp;split at hq
  .obtain rfl:=qz hq;exact h
  .exact pB hq
 .exact pB hp
theorem HE{lU:List Nat}(h:∀x∈lU,x<=15):(u9 lU).Perm (Ii lU lU.length):=by
 refine(List.perm_ext_iff_of_nodup ?_ ?_).mpr λp=>?_
 .exact ja.mpr<|(vS lU).imp RY
 .exact ja.mpr ((xC lU _).imp λ{p q} h e=>by rw[e]at h;exact bW _ h)
 .rw[yr,FC];constructor
  .intro jj;let h1:=jj.1;let h2:=jj.2.1;let h3:=jj.2.2.1;let h4:=jj.2.2.2;exact⟨h1,h3,h4⟩
  .intro jj;let h1:=jj.1;let h2:=jj.2.1;let h3:=jj.2.2;refine⟨h1,?_,h2,h3⟩;refine h3▸?_;refine bF bq▸?_;rw[bU h2];exact h _<|i7 _
theorem CF{lU:List Nat}{ps qs:List (bp×Int×Int)}(hb:∀x∈lU,x<=15)(hp:ps.map (·.2)=(Ii lU lU.length).map KV)(h1:qs.Perm ps)(h2:qs.Pairwise λp q=>p.2.1<q.2.1∨(p.2.1=q.2.1/\p.2.2<=q.2.2)):
  qs.map (·.2)=(u9 lU).map KV:=by
 refine List.Perm.eq_of_pairwise (le:=λ(p q:Int×Int)=>p.1<q.1∨(p.1=q.1/\p.2<=q.2)) (λa b _ _ x y=>Prod.ext ("zohVT8B|r8J~z>2X;_HZ.P'dMV}LwwkD]#'",x,y) ("'{X__j~'AhZHFk~B0wUYSCM`W/#>&upY%#'",x,y)) ?_ ?_ ?_
 .rw[jf];exact h2
 .rw[jf];refine(vS lU).imp λ{p q} h=>?_;unfold Pv at h;unfold KV;exact h.imp Int.ofNat_lt.mpr λh=>⟨congrArg Nat.cast h.1,aV<|Int.ofNat_lt.mpr h.2⟩
 .let:=h1.map (·.2);rw[hp]at this;exact this.trans ((HE hb).map KV).symm
def uo(l:List Nat):List Nat:=(gk 16).map λs=>l.count s
def nH(l:List Nat):List Nat:=(uo l).set 0 0
theorem sj(l:List Nat):(uo l).length=16:=by unfold uo;rw[cF,iU]
theorem Pw{l:List Nat}{s:Nat}(h:s<16):(uo l).getD s 0=l.count s:=by unfold uo;refine bF bq▸?_;refine bF cj▸?_;rw[jb h];rfl
theorem Er{l:List Nat}{x:Nat}(h:x<16):(uo l).set x ((uo l).getD x 0+1)=uo (l++[x]):=by
 rw[Pw h];apply jK;intro i;rw[j8,sj];unfold uo;refine bF cj▸?_;refine bF cj▸?_;by_cases e:x=i
 .subst e;rw[mZ rfl];rw[mZ h];rw[jb h];simp
 .rw[mT e];by_cases hi:i<16
  .rw[jb hi];simp[e]
  .rw[i8 (by rw[iU];exact("zlIFO'7Kp$#",hi))];rfl
theorem J7{l:List Nat}{i x:Nat}:(l.map λ(n:Nat)=>iR n).set i (.int (x:Nat))=(l.set i x).map λ(n:Nat)=>iR n:=by exact bF List.map_set▸rfl
theorem uq{l:List Nat}{i:Nat}(h:i<l.length):l.take (i+1)=l.take i++[l.getD i 0]:=by rw[j7];rw[bU h];refine bF bq▸?_;rw[bU h];rfl
theorem Px{d:bp}{qs:List (bp×Int×Int)}{te:NA}{tv:Loc->AH->(AH->Prop)->(Bool->AH->Prop)->Prop}{el:Loc->AH->(AH->Prop)->(V->AH->Prop)->Prop}{H:AH}{Q:V->AH->Prop}{o a b:Option V}
  (h1:∀{tt:bp}{k x:Int}{a b:Option V}{h:AH}{K:Loc->AH->Prop},h tt=aq (.tup [.int x,.int k])->K [o,aq<|.int x,aq<|.int k] h->te (.ref tt) [o,a,b] h E0 K)
  (h2:∀{l:Loc}{h:AH}{T:Bool->AH->Prop},T af h->tv l h E0 T)
  (h3:∀{k x:Int}{h:AH}{Q:V->AH->Prop},Q (.int k) h->el [o,aq<|.int x,aq<|.int k] h E0 Q)
  (hd:H d=aq (.list (lp qs)))(hn:qs.length<=1000)(hp:∀p∈qs,H p.1=aq (.tup [.int p.2.1,.int p.2.2]))
  (hQ:∀D,H D=aI->Q (.ref D) (upd H D<|.list (qs.map λp=>.int p.2.2))):
  px (.L d (lp qs)) te tv el [o,a,b] H Q:=by
 refine lu [Option V,Option V] (λ_ _ a b=>[o,a,b]) (λD i _ _ h=>h=upd H D (.list ((qs.take i).map λp=>.int p.2.2))) (λ_ _=>⟨a,b,rfl,rfl⟩) ?_ ?_ ?_
 .rintro D hD i h a b rfl;have:d≠D:=λe=>by let hD:=bF (e)▸hD;let hD:=hd▸hD;exact rQ hD
  show upd H D _ d=_;rw[lV this];exact hd
 .rintro D hD i h K hK a b rfl x hx;unfold lp at hx;have hx:=cj▸hx;cases e:qs[i]? with
  |none=>let hx:=e▸hx;exact pB hx
  |some p=>
   rw[e]at hx;obtain rfl:=qz hx;let m:=bR e;let lt:=(bZ.mp e).1;let hp:=hp p m;have np:p.1≠D:=λe=>by rw[e,hD]at hp;exact pB hp
   refine h1 (by rw[lV np];exact hp)<|h2<|lC<|h3<|iL (lT _ _ _)<|iM ?_<|hK _ _ _ ?_
   .rw[cF,eW];exact("%+a=YOoPc[*tN$D4&LH}8f&#",hn,rfl)
   .rw[j7];rw[e];rw[i6];funext z;unfold upd;by_cases ez:z=D
    .rw[mZ ez];rw[mZ ez];rfl
    .rw[mT ez];rw[mT ez];exact bF (mT ez)▸rfl
 .rintro D hD h a b rfl;let e:(CM.L d<|lp qs).len=qs.length:=by show(lp qs).length=_;unfold lp;rw[cF]
  rw[e];rw[js];exact hQ D hD
section
variable{H:AH}{Q:V->AH->Prop}{E:AH->Prop}
theorem RZ{l:bp}{lU:List Nat}(hl:H l=aq (NL lU))(hn:lU.length<=1000)(hb:∀x∈lU,x<=15)
  (hq:∀H' t c d,lY [] H H'->H t=aI->H c=aI->H d=aI->H' t=aq (.tup [.ref c,.ref d])->H' c=aq (NL<|nH lU)->H' d=aq (NL<|oO lU)->Q (.ref t) H'):mH 1 (.ref 262) [.ref l] H Q E:=by
 refine nS (n:=0) I2 GV .nil rfl ?_;refine iM (ak rfl) (iP λm0 Py=>iL (lT _ _ _)<|iM ⟨by decide,ak rfl⟩<|iP λm hm=>?_);have lm0:l≠m0:=λe=>by let Py:=bF (e)▸Py;let Py:=hl▸Py;exact rQ Py
 have lm:l≠m:=λe=>by rw[<-e,lV lm0,hl]at hm;exact rQ hm
 have V2:H m=aI:=by
  let ne:m≠m0:=λe=>by rw[e,lT]at hm;cases hm
  rw[lV ne]at hm;exact hm
 refine iL (o:=NL lU) (by rw[lV lm,lV lm0];exact hl) ?_;refine sG.tl [Option V] (λ_ x=>[aq (.ref l),aq<|.ref m,x,aI,aI]) (λi _ h=>lY [m] H h/\h m=aq (NL<|uo<|lU.take i)) ⟨aI,⟨?_,?_⟩,rfl⟩ ?_ ?_ ?_
 .exact(lY.refl.new Py).new hm
 .rw[lT];rfl
 .intro i h _ jj;let k:=jj.1;exact k _ _ hl λq=>lm<|aH.mp q
 .intro i h x K hx nx x0 jj;let k:=jj.1;let q:=jj.2;obtain⟨lt,rfl⟩:=qC hx;have XS:lU.getD i 0<16:=by
   rw[bq,bU lt];exact Nat.lt_succ_of_le<|hb _<|i7 _
  let gl:lU.getD i 0<(uo<|lU.take i).length:=by rw[sj];exact XS
  refine iL q<|iS (pE gl)<|iL q<|iM ?_<|nx _ _ ⟨k.upd<|.head _,?_⟩
  .rw[cF,sj];exact("PbKF.kJaK%]&+Dn$#",XS)
  .rw[lT,show((lU.getD i 0:Nat):Int).toNat=lU.getD i 0 by exact("s4RlOb-;:~iss%#",rfl)];let e:((uo<|lU.take i).getD (lU.getD i 0) 0:Int)+1=(((uo<|lU.take i).getD (lU.getD i 0) 0+1:Nat):Int):=("'p8Cwz._;n:$#");rw[e];rw[J7];rw[Er XS];refine uq lt▸?_;rfl
 .intro h x0 jj;let k:=jj.1;let q:=jj.2;have e:(lU.map λ(n:Nat)=>iR n).length=lU.length:=cF _;rw[e,js]at q;refine iL q<|iM ?_ ?_
  .rw[cF,sj];exact("$7WbNjI3_He##")
  ·
   have nlm:l∉[m]:=λq=>lm<|aH.mp q;let z0:(NL<|nH lU)=.list ((je (λ(n:Nat)=>iR n)<|uo lU).set (jI 0) (iR 0)):=by unfold nH NL;refine J7▸?_;rfl
   refine z0▸?_;have k2:lY [m] H (upd h m<|NL<|nH lU):=k.upd<|.head _;let R1:=k2 _ _ hl nlm;refine iL R1<|iM rfl<|CE rfl (λhh hk=>iL hh hk) (λhT=>hT) (λhQ=>iM (ak rfl)<|iP hQ) R1 hn λD H' ps k3 hD0 hD V3 QT=>?_;have len:ps.length<=1000:=by let e1:=congrArg iD QT;let e2:(Ii lU lU.length).length<=lU.length:=gq (jq _ _) (by rw[iU];exact dg _);rw[cF,cF]at e1;exact("S3UYN<6?#dz[AkI^ETK&#",hn,e1,e2)
   let mem:∀p∈ps,0<=p.2.2/\p.2.2<1000000:=λp mp=>by
    let:p.2∈(Ii lU lU.length).map KV:=by rw[<-QT];exact dP mp
    obtain⟨q,mq,eq⟩:=ef.mp this;let:=(FC.mp mq).2.1;rw[<-eq];unfold KV;exact⟨Int.natCast_nonneg _,Int.ofNat_lt (m:=1000000)|>.mpr (hH this<|gq hn (""))⟩
   let nd:(ps.map (·.2)).Nodup:=by rw[QT,ja,jf];refine(xC lU _).imp λ{p q} lt e=>?_;let:=congrArg Prod.snd e;unfold KV at this;exact absurd (Int.ofNat_inj.mp this)<|Nat.ne_of_lt lt
   refine iL hD<|Dg.intro ps rfl V3 mem nd ("2{_)92Sq1o~vNU$#",len) λqs perm UZ d hd=>iL (lT _ _ _)<|iM rfl ?_;let qd:∀p∈qs,H' p.1=aq (.tup [.int p.2.1,.int p.2.2]):=λp mp=>V3 p<|perm.mem_iff.mp mp;refine Px (λhh hk=>iL hh hk) (λhT=>hT) (λhQ=>hQ) (lT _ _ _) (by rw[perm.length_eq];exact len) (λp mp=>?_) λD2 NF=>iM (ak rfl)<|iP λt ht=>?_
   .have e:=qd p mp;let ne:p.1≠d:=λq=>by let e:=q▸e;have e:=hd▸e;cases e
    rw[lV ne];exact e
   .have sg:(qs.map λp=>iR p.2.2)=(oO lU).map λ(n:Nat)=>iR n:=by
     let e:=congrArg (je λ(q:Int×Int)=>iR q.2)<|CF hb QT perm UZ;unfold oO;let e:=cO▸e;let e:=cO▸e;rw[cO];exact e
    rw[sg]at ht⊢;have mN:m≠D2:=λe=>by
     have c:=k3 m _ (lT _ _ _) iN;have dm:m≠d:=λq=>by let c:=q▸c;let c:=hd▸c;exact pB c
     have NF:=bF (e)▸NF;let NF:=(lV dm)▸NF;let NF:=c▸NF;exact rQ NF
    have cm:H' m=aq (NL<|nH lU):=k3 m _ (lT _ _ _) iN;have dm:m≠d:=λq=>by rw[q,hd]at cm;exact pB cm
    let tm:m≠t:=λq=>by rw[<-q,lV mN,lV dm,cm]at ht;exact rQ ht
    let tD:D2≠t:=λq=>by rw[<-q,lT]at ht;exact rQ ht
    have kd:lY [m] H (upd H' d<|.list (lp qs)):=(k2.trans<|k3.more λx q=>(iN q).elim).new hd;let kD:lY [m] H (upd (upd H' d<|.list (lp qs)) D2<|NL<|oO lU):=kd.new NF;let kk:lY [m] H (upd (upd (upd H' d<|.list (lp qs)) D2<|NL<|oO lU) t<|.tup [.ref m,.ref D2]):=kD.new ht;let none_of:∀a,(upd (upd H' d<|.list (lp qs)) D2<|NL<|oO lU) a=aI->a≠m->H a=aI:=λa e na=>by
     cases q:H a with
     |none=>rfl
     |some o=>
      let:=kD a o q λq=>na<|aH.mp q;have this:=e▸this;exact pB this
    let D2H:H D2=aI:=by
     cases q:H D2 with
     |none=>rfl
     |some o=>
      have:=kd D2 o q λq=>mN (aH.mp q).symm;have this:=NF▸this;exact pB this
    refine hq _ t m D2 (λa o e _=>kk a o e λq=>?_) (none_of t ht tm.symm) V2 D2H (lT _ _ _) ?_ ?_
    .let e:=(aH.mp q)▸e;let e:=V2▸e;exact pB e
    .rw[lV tm,lV mN,lV dm];exact cm
    .rw[lV tD,lT];rfl
end
theorem list_range(l:List Nat):l=(gk l.length).map λk=>l.getD k 0:=by
 apply jK;intro i;rw[cj];by_cases h:i<l.length
 .rw[jb h,bU h];show _=aq (l.getD i 0);rw[bq,bU h];rfl
 .rw[i8 (Nat.le_of_not_lt h),i8 (by rw[iU];exact("zl)*M|~1N%#",h))];rfl
theorem CG(lU:List Nat)(s:Nat):(idxs lU s).length=lU.count s:=by
 unfold idxs;rw[<-List.countP_eq_length_filter]
 conv=>rhs;rw[list_range lU,List.count,List.countP_map]
 rfl
theorem rO(lU:List Nat):nH lU=0::(gk 15).map λs=>lU.count (s+1):=by unfold nH uo;rfl
theorem CH{lU:List Nat}{s:Nat}(h:s<15):(nH lU).getD (s+1) 0=lU.count (s+1):=by rw[rO,List.getD_cons_succ,bq,cj,jb h];rfl
theorem vT(lU:List Nat):(oO lU).length=ou (nH lU) 15:=by unfold oO u9 ou;rw[rO,cF,List.length_flatMap];show _=(((gk 15).map λs=>lU.count<|s+1).take 15).sum;rw[g6 (by rw[cF,iU];exact dg _)];congr 1;exact dU λs _=>by rw[cF,CG]
theorem HF{lU:List Nat}(hn:lU.length<=900)(hb:∀x∈lU,x<=15):J5 (nH lU) (oO lU)where
 l:=by rw[rO,bO,cF,iU]
 s:=Nat.le_of_eq (vT lU).symm
 m:=by
  have a:(u9 lU).length<=lU.length:=by rw[(HE hb).length_eq];exact gq (jq _ _) (by rw[iU];exact dg _)
  unfold oO;rw[cF];exact("+2p_?;3%vP/Q3F7F%#",hn,a)
 b:=λx m=>by unfold oO at m;obtain⟨p,mp,rfl⟩:=ef.mp m;let:=(yr.mp mp).2.2.1;exact("+2p_?;8}V}d8vlni%#",hn,this)
def qY(cnt:List Nat):Nat->Nat->Nat->Option Nat
 |0,_,left=>aq left
 |f+1,size,left=>if 2*left<cnt.getD size 0 then aI else qY cnt f (size+1)<|2*left-cnt.getD size 0
def pV(cnt sg:List Nat)(yt:Bool):Bool:=match qY cnt 15 1 1 with
 |none=>ag
 |some left=>left==0||(yt&&sg.length==cnt.getD 1 0)
section
variable{H:AH}{Q:V->AH->Prop}{E:AH->Prop}
theorem Ve{bk c t:bp}{cnt sg:List Nat}{yt:Bool}(hb:H bk=aq (.tup [.ref c,.ref t]))(hc:H c=aq (NL cnt))(ht:H t=aq (NL sg))(ok:J5 cnt sg)(hq:Q (.bool (pV cnt sg yt)) H):mH 1 (.ref 269) [.ref bk,.bool yt] H Q E:=by
 refine nS (n:=0) Fi DC .nil rfl ?_;refine iM ("") (lq [Option V,Nat,Int] (λ_ x _ z=>[aq (.ref bk),aq<|.bool yt,aq<|.int z,x,aI,aI]) (λi _ left z h=>A5 (i<=15) (h=H) (z=(left:Nat)) (left<=2^i)<|qY cnt 15 1 1=qY cnt (15-i) (i+1) left) ⟨aI,1,1,⟨by decide,rfl,rfl,by decide,rfl⟩,rfl⟩ ?_ ?_)
 .rintro i h K hi hK x left _ ⟨J6,rfl,rfl,q1,q2⟩;have hi:i<15:=hi;let p1:=zV (i:=i) ("(JP`>vRT4$#",hi);let cl:i+1<cnt.length:=by rw[ok.l];exact("$ER&T]j,H{A$#",hi)
  let e1:(1:Int)+i=((i+1:Nat):Int):=("'p8Cwyyj[q($#");let u:qY cnt ((14-i)+1) (i+1) left=if 2*left<cnt.getD (i+1) 0 then aI else qY cnt (14-i) (i+1+1) (2*left-cnt.getD (i+1) 0):=rfl
  rw[show 15-i=(14-i)+1 by exact("N=52*-H|tfIG[X+M/z)tZ+[z47d&#",hi,rfl,rfl),u]at q2;rw[e1];refine iM (q8 ("") (""))<|iL hb<|iS (v:=.ref c) rfl<|iL hc<|iS (pE cl)<|iQ (λe=>?_) λe=>?_
  .have e:=pN e;rw[mZ ("(UWrCqd9X~,'P?o%#",e)]at q2;let:pV cnt sg yt=ag:=by unfold pV;rw[q2]
   rw[this]at hq;exact hq
  .have e:=pZ e;rw[mT ("2l$R%ZW:i+]HtBhi%#",e)]at q2;refine hK _ (aq<|.int ((i+1:Nat):Int)) (2*left-cnt.getD (i+1) 0) _ ⟨("$EIa;+:tzgU$#",hi),rfl,("8Fk]sS&Zj)U#PjNxL/N'43$U1GS2M&#",e,rfl),?_,?_⟩
   .rw[jg];exact("/k~ETNzY:0Z5:w`c5S1:Cg'#",q1,rfl)
   .rw[q2,show 15-(i+1)=14-i by exact("i5z[SsN,#kM[h;kwjL9._'}./%v{5t&#",rfl,rfl)]
 .rintro h x left _ ⟨J6,rfl,rfl,q1,q2⟩;let q2:qY cnt 15 1 1=aq left:=q2;have fe:pV cnt sg yt=(left==0||(yt&&sg.length==cnt.getD 1 0)):=by unfold pV;rw[q2]
  refine iQ (λe=>?_) λe=>iQ (λe'=>?_) λe'=>?_
  .let e:=pN e;rw[show left=0 by exact("$ye*&js.1+bS$#",e)]at fe;rw[fe]at hq;exact hq
  .have e:=pZ e;subst e';let g1:=pE (l:=cnt) (i:=1) (by rw[ok.l];decide);refine iL hb<|iS (v:=.ref t) rfl<|iL ht<|iL hb<|iS (v:=.ref c) rfl<|iL hc<|iS g1 ?_;let:pV cnt sg af=decide (((je (λ(n:Nat)=>iR n) sg).length:Int)=((cnt.getD 1 0:Nat):Int)):=by
    rw[fe,dM];simp only[cF,jV,beq_iff_eq,kb,decide_eq_true_eq];exact⟨λh=>h.elim (λh=>absurd (congrArg Nat.cast h) e)<|congrArg Nat.cast,λh=>.inr (Int.ofNat_inj.mp h)⟩
   rw[this]at hq;exact hq
  .have e:=pZ e;subst e';let:pV cnt sg ag=ag:=by
    rw[fe,eK];intro q;simp only[kN,Bool.or_false,beq_iff_eq]at q;exact("(R{<t0sI]t%Ul$#",e,q)
   rw[this]at hq;exact hq
end
abbrev Bk:=List Nat×List Nat
inductive Vf
 |QU
 |own(a b:Bk)
def qh(lQ:Nat):Nat->List UInt8->List UInt8
 |0,out=>out
 |n+1,out=>qh lQ n<|out++[out.getD (out.length-lQ) 0]
theorem HG{k:Nat}(h:k<=28):(nL k).1<=258/\(nL k).2<=5/\3<=(nL k).1:=by
 let:∀k,k<29->(decide ((nL k).1<=258)&&decide ((nL k).2<=5)&&decide (3<=(nL k).1))=af:=by decide
 let:=this k ("(O;~eJ|,O$#",h);simp only[cN,decide_eq_true_eq]at this;exact⟨this.1.1,this.1.2,this.2⟩
theorem KW{k:Nat}(h:k<=29):(pf k).1<=24577/\(pf k).2<=13/\1<=(pf k).1:=by
 let:∀k,k<30->(decide ((pf k).1<=24577)&&decide ((pf k).2<=13)&&decide (1<=(pf k).1))=af:=by decide
 let:=this k ("(O_+|FJ`p$#",h);simp only[cN,decide_eq_true_eq]at this;exact⟨this.1.1,this.1.2,this.2⟩
theorem we(lQ:Nat):∀n out,(qh lQ n out).length=out.length+n
 |0,out=>rfl
 |n+1,out=>by show(qh lQ n _).length=_;rw[we lQ n,cz];show out.length+1+n=_;exact id<|j9 0x12241210c0184048036402 ("$")
theorem xD(lQ:Nat):∀n out,qh lQ (n+1) out=qh lQ n out++[(qh lQ n out).getD ((qh lQ n out).length-lQ) 0]
 |0,out=>rfl
 |n+1,out=>xD lQ n _
theorem qi{pg:Pg}{n p v p':Nat}(h:nU pg n p=aq (v,p')):v<2^n/\p'<=8*pg.length:=by
 unfold nU at h;split at h
 .cases h;exact⟨rC pg p n,by assumption⟩
 .exact pB h
theorem HH{pg:Pg}{n p v p':Nat}(h:yq pg n p=aq (v,p')):v<2^n/\p'<=8*pg.length:=by
 unfold yq at h;split at h
 .cases h;exact⟨vR pg p n,by assumption⟩
 .exact pB h
theorem yv{pg:Pg}{cnt sg:List Nat}(hb:∀x∈sg,x<1000){f:Nat}:∀{size code first DV p v p':Nat},zW pg cnt sg f size code first DV p=aq (v,p')->v<1000/\p'<=8*pg.length:=by
 induction f with
 |zero=>intro _ _ _ _ _ _ _ h;exact pB h
 |succ f ih=>
  intro size code first DV p v p' h
  rw[qr]at h;by_cases c:p<8*pg.length
  .rw[mZ c]at h;by_cases c2:2*code+lz pg p<first+cnt.getD size 0
   .rw[mZ c2]at h;cases h;refine⟨?_,("*mU1*4QyS`it/B%#",c)⟩;refine bF bq▸?_;cases e:sg[DV+(2*code+lz pg p-first)]? with
    |none=>exact(by decide:0<1000)
    |some x=>exact hb x<|bR e
   .rw[mT c2]at h;exact ih h
  .rw[mT c]at h;exact pB h
theorem M6{pg:Pg}{p v p':Nat}(h:sh pg p=aq (v,p')):v<1000/\p'<=8*pg.length:=by
 unfold sh at h;split at h
 .exact pB h
 .rename_i c p1 e;let l:=HH e;let l1:=l.1;let l2:=l.2;let b1:=pD pg p1;let b2:=pD pg<|p1+1;let l1:c<128:=l1;split at h
  .cases h;exact⟨("2|JqMtrBOcdR'M$#",(by assumption)),l2⟩
  .split at h
   .split at h
    .cases h;exact⟨("$?,xlKUH/nd~0+%2)`/#$Zg%gS(&#",(by assumption),rfl),by assumption⟩
    .split at h
     .cases h;exact⟨("3dr9,N$vBomC_y?r#+uU[L%#",(by assumption)),by assumption⟩
     .split at h
      .cases h;exact⟨("$ozx%.*a*b=jAxN?l&$2{X-+r2I6%]mIo]D=cW^o~>(3)#",l,b1,b2,rfl),by assumption⟩
      .exact pB h
   .exact pB h
def oy:Nat->List Nat->List Nat
 |0,_=>[]
 |k+1,l=>l++oy k l
theorem rP(l:List Nat):∀k,qa k (l.map λ(n:Nat)=>iR n)=(oy k l).map λ(n:Nat)=>iR n
 |0=>rfl
 |k+1=>by show _++qa k _=je _ (l++oy k l);rw[rP l k];exact bF i6▸rfl
theorem pW(l:List Nat):∀k,(oy k l).length=k*l.length
 |0=>by rw[Nat.zero_mul];rfl
 |k+1=>by show(l++oy k l).length=_;rw[cz,pW l k,Nat.succ_mul,kj]
theorem rD{l:List Nat}{x:Nat}:∀{k},x∈oy k l->x∈l
 |0,h=>by cases h
 |k+1,h=>(aE.mp h).elim id rD
def sK(l:List Nat):List Nat:=l.drop<|l.length-1
def HI(pg:Pg)(p:Nat):Nat->List Nat
 |0=>iT 19 0
 |k+1=>(HI pg p k).set (vQ.getD k 0) (mE pg (p+3*k) 3)
def nQ(pg:Pg)(lU:List Nat)(sg p:Nat):Option (List Nat×Nat):=
 if sg<16 then aq (lU++[sg],p)else
 if sg=16 then(if lU=[]then aI else(nU pg 2 p).map λr=>(lU++oy (3+r.1) (sK lU),r.2))else
 if sg=17 then(nU pg 3 p).map λr=>(lU++oy (3+r.1) [0],r.2)else
 (nU pg 7 p).map λr=>(lU++oy (11+r.1) [0],r.2)
def pX(pg:Pg)(bk:Bk)(lU:List Nat)(p:Nat):Option (List Nat×Nat):=match pG pg bk.1 bk.2 p with
 |none=>aI
 |some (sg,p1)=>nQ pg lU sg p1
def pH(pg:Pg)(bk:Bk)(all:Nat):Nat->Nat->List Nat->Option (List Nat×Nat)
 |0,p,lU=>if all<=lU.length then aq (lU,p)else aI
 |f+1,p,lU=>if all<=lU.length then aq (lU,p)else match pX pg bk lU p with
  |none=>aI
  |some (lU,p)=>pH pg bk all f p lU
theorem xE{pg:Pg}{bk:Bk}{all p:Nat}{lU:List Nat}(h:all<=lU.length):∀f,pH pg bk all f p lU=aq (lU,p)
 |0=>mZ h
 |f+1=>mZ h
inductive Tw
 |bad
 |pd
 |ok(p:Nat)(a b:Bk)
def qF(l:List Nat):Bk:=(nH l,oO l)
def rH(lit all:Nat):Option (List Nat×Nat)->Tw
 |none=>.bad
 |some (lU,p)=>if all<lU.length∨lU.getD 256 0=0 then .bad else
  if pV (nH<|lU.take lit) (oO<|lU.take lit) af&&pV (nH<|lU.drop lit) (oO<|lU.drop lit) af then .ok p (qF<|lU.take lit) (qF<|lU.drop lit)else .bad
def vU(pg:Pg)(lit all:Nat)(hl:List Nat)(p:Nat):Tw:=if pV (nH hl) (oO hl) ag then rH lit all (pH pg (qF hl) all 317 p [])else .bad
def vV(pg:Pg)(lit all aq p:Nat):Tw:=if 8*pg.length<p+3*aq then .bad else vU pg lit all (HI pg p aq)<|p+3*aq
def rI(pg:Pg)(p:Nat):Tw:=if 8*pg.length<p+14 then .bad else if 286<257+mE pg p 5∨30<1+mE pg (p+5) 5 then .pd else
 vV pg (257+mE pg p 5) (257+mE pg p 5+(1+mE pg (p+5) 5)) (4+mE pg (p+10) 4) (p+14)
theorem oo{pg:Pg}{n p v p':Nat}(h:nU pg n p=aq (v,p')):v=mE pg p n/\p'=p+n/\p+n<=8*pg.length:=by
 unfold nU at h;split at h
 .cases h;exact⟨rfl,rfl,by assumption⟩
 .exact pB h
theorem pY{pg:Pg}{n p:Nat}(h:nU pg n p=aI):8*pg.length<p+n:=by
 unfold nU at h;split at h
 .exact rQ h
 .exact("CX&'h3;BwSw4]]~M&#",(by assumption))
def fxA:List Nat:=iT 144 8
def fxB:List Nat:=fxA++iT 112 9
def fxC:List Nat:=fxB++iT 24 7
def J8:List Nat:=fxC++iT 8 8
def KY:List Nat:=iT 32 5
structure MS where
 p:Nat
 out:List UInt8
 last:Bool
 done:Bool
 bks:Option (Bk×Bk)
 stored:Nat
inductive yx
 |bad
 |pd
 |go(s:MS)
inductive M7
 |bad
 |pd
 |told(out:List UInt8)(place:Nat)
def xe(pg:Pg)(size w:Nat)(s:MS):yx:=if 30<=w then .bad else match nU pg (pf w).2 s.p with
 |none=>.bad
 |some (e2,p4)=>if s.out.length<(pf w).1+e2 then .bad else .go ⟨p4,qh ((pf w).1+e2) size s.out,s.last,s.done,s.bks,s.stored⟩
def CJ(pg:Pg)(b:Bk)(size:Nat)(s:MS):yx:=match pG pg b.1 b.2 s.p with
 |none=>.bad
 |some (w,p3)=>xe pg size w ⟨p3,s.out,s.last,s.done,s.bks,s.stored⟩
def tE(pg:Pg)(b:Bk)(k:Nat)(s:MS):yx:=if 29<=k then .bad else match nU pg (nL k).2 s.p with
 |none=>.bad
 |some (e1,p2)=>CJ pg b ((nL k).1+e1) ⟨p2,s.out,s.last,s.done,s.bks,s.stored⟩
def KZ(pg:Pg)(a b:Bk)(s:MS):yx:=match pG pg a.1 a.2 s.p with
 |none=>.bad
 |some (sg,p1)=>if sg<256 then .go ⟨p1,s.out++[sg.toUInt8],s.last,s.done,s.bks,s.stored⟩else if sg=256 then .go ⟨p1,s.out,s.last,s.done,aI,s.stored⟩else tE pg b (sg-257) ⟨p1,s.out,s.last,s.done,s.bks,s.stored⟩
def Bb(pg:Pg)(s:MS):yx:=if(s.p+7)/8+s.stored<=pg.length then .go ⟨8*((s.p+7)/8+s.stored),s.out++(pg.drop<|(s.p+7)/8).take s.stored,s.last,s.done,s.bks,0⟩else .bad
def J9(pg:Pg)(s:MS):yx:=if pg.length<(s.p+7)/8+4 then .bad else
 if mE pg (8*((s.p+7)/8)) 16+mE pg (8*((s.p+7)/8)+16) 16=65535 then .go ⟨8*((s.p+7)/8+4),s.out,s.last,s.done,s.bks,mE pg (8*((s.p+7)/8)) 16⟩else .bad
def xF(pg:Pg)(kind:Nat)(s:MS):yx:=if kind=0 then J9 pg s else if kind=1 then .go ⟨s.p,s.out,s.last,s.done,aq (qF J8,qF KY),s.stored⟩else
 if kind=2 then(match rI pg s.p with
  |.bad=>.bad
  |.pd=>.pd
  |.ok p a b=>.go ⟨p,s.out,s.last,s.done,aq (a,b),s.stored⟩)else .bad
def FD(pg:Pg)(s:MS):yx:=match nU pg 1 s.p with
 |none=>.bad
 |some (l,p1)=>match nU pg 2 p1 with
  |none=>.bad
  |some (kind,p2)=>xF pg kind ⟨p2,s.out,l==1,s.done,s.bks,s.stored⟩
def vW(pg:Pg)(s:MS):yx:=match s.bks with
 |some (a,b)=>KZ pg a b s
 |none=>if 0<s.stored then Bb pg s else if s.last then .go ⟨s.p,s.out,s.last,af,aI,s.stored⟩else FD pg s
def runM(pg:Pg):Nat->MS->M7
 |0,_=>.pd
 |k+1,s=>if 100000<s.out.length+s.stored then .pd else if s.done then .told s.out ((s.p+7)/8)else match vW pg s with
  |.bad=>.bad
  |.pd=>.pd
  |.go s=>runM pg k s
section
variable{pg:Pg}{cnt sg:List Nat}{p:Nat}
theorem HJ{n:Nat}:n<=15->(∀i,i<n->cnt.getD (i+1) 0=0)->pG pg cnt sg p=if n=0∨p+n<=8*pg.length then zW pg cnt sg (15-n) (n+1) (uB pg p n) 0 0 (p+n)else aI:=by
 induction n with
 |zero=>exact λ_ _=>rfl
 |succ n ih=>
  intro h z;rw[ih ("$EI]|+]6V=b$#",h) λi hi=>z i ("$D-P6o1<^U?%#",hi)];by_cases c:n=0∨p+n<=8*pg.length
  .rw[mZ c,show 15-n=(15-(n+1))+1 by exact("%d?~Y9|;Tk8^~_<l8z%da??4qm,Vnsx&#",h,rfl,rfl),qr,z n<|dG n];by_cases c2:p+n<8*pg.length
   .rw[mZ c2,mZ (show n+1=0∨p+(n+1)<=8*pg.length by exact("%v#L(4=[7THgb#yb:ZTNT#PY4&#",c2)),mT (",5]_nK+w2K#8}%#")];rfl
   .rw[mT c2,mT (show¬(n+1=0∨p+(n+1)<=8*pg.length) by exact("%+ILpV)&~W7QY%mbN7.z0j*#gK&#",c2))]
  .rw[mT c,mT ("O9Q).`(]T,L2LeGzl~&DFZ]v~6x2o#6&#",c)]
end
theorem Pz:nH J8=[0,0,0,0,0,0,0,24,152,112,0,0,0,0,0,0]/\nH KY=[0,0,0,0,0,32,0,0,0,0,0,0,0,0,0,0]:=by decide+kernel
def fxS:List Nat:=(gk 24).map (256+·)++gk 144++(gk 8).map (280+·)++(gk 112).map (144+·)
theorem PA:oO J8=fxS/\oO KY=gk 32:=by decide+kernel
theorem Vg:((gk 288).all λk=>fxS.getD k 0==if k<24 then 256+k else if k<168 then k-24 else if k<176 then k+112 else k-32)=af:=by decide+kernel
theorem Bc{k:Nat}(h:k<288):fxS.getD k 0=if k<24 then 256+k else if k<168 then k-24 else if k<176 then k+112 else k-32:=beq_iff_eq.mp<|bT.mp Vg k<|jy.mpr h
theorem K1(pg:Pg)(p:Nat):pG pg (nH J8) (oO J8) p=sh pg p:=by
 rw[Pz.1,PA.1,HJ (n:=6) ("") ("")];unfold sh yq;let b1:=pD pg<|p+6;let b2:=pD pg<|p+7;let b3:=pD pg<|p+8;let h6:=vR pg p 6;let h7:uB pg p 7=2*uB pg p 6+lz pg (p+6):=rfl;by_cases c:p+7<=8*pg.length
 .rw[mZ (".BJ;QCbu?NhfL&i~Mm~#R%#",c),mZ c,qr,mZ ("$|]oYBDhGT~+.K/9%#",c)];dsimp only;rw[h7];let l7:2*uB pg p 6+lz pg (p+6)<128:=("uD)JGiZW9:QQf/o.Xw)%#",b1,h6);generalize 2*uB pg p 6+lz pg (p+6)=c7 at l7⊢;rw[show([0,0,0,0,0,0,0,24,152,112,0,0,0,0,0,0]:List Nat).getD (6+1) 0=24 from rfl,iq,Nat.sub_zero,iq];by_cases e:c7<24
  .rw[mZ e,mZ e,Bc ("$Ebg$[R9$P8$#",e),mZ e]
  rw[mT e,mT e,qr,show([0,0,0,0,0,0,0,24,152,112,0,0,0,0,0,0]:List Nat).getD (6+1+1) 0=152 from rfl,show p+6+1=p+7 from rfl];by_cases c8:p+7<8*pg.length
  .rw[mZ c8,mZ (show p+7+1<=8*pg.length from c8)];let l8:2*c7+lz pg (p+7)<256:=("&WJ<al{^U9`0/%4,&?_k%#",b2,l7);let g8:48<=2*c7+lz pg (p+7):=(".2]xT3N*A5d:_E}%#",e);generalize 2*c7+lz pg (p+7)=c8 at l8 g8⊢;by_cases e1:c8<192
   .rw[mZ ("Q$J3*B*<AkL.|oM$#",e1),mZ e1,Bc ("$mJ[]^lj8dx;ZX-0&flg^L%#",e1,rfl),mT ("2D2LLh~O$#"),mZ ("v6>r~dSIRc1a90WI|fb*e%#",e1,rfl),show 24+(c8-2*24)-24=c8-48 by exact("&RAmn<$'|XsK&7>P%#",rfl)]
   rw[mT e1];by_cases e2:c8<200
   .rw[mZ ("Q$J3*B*<AnC}AAp$#",e2),mZ e2,Bc ("$mJ[]^lj8dx;ZX-0)^_+/o%#",e2,rfl),mT ("2D2LLh~O$#"),mT ("why=v4<vDeN%I$raPWaPcTN%#",e1,rfl),mZ ("v6>tUmqj)=N$.9tze.7~3%#",e2,rfl),show 24+(c8-2*24)+112=c8+88 by exact("8FmE1l#sCttq2U(_TV1a#^O^{amUm%#",e1,rfl)]
   rw[mT ("$J''YgrVe&hyU#WPQ$#",e2),mT e2,qr,show([0,0,0,0,0,0,0,24,152,112,0,0,0,0,0,0]:List Nat).getD (6+1+1+1) 0=112 from rfl,show p+7+1=p+8 from rfl,show p+7+2=p+9 from rfl];by_cases c9:p+8<8*pg.length
   .rw[mZ c9,mZ (show p+9<=8*pg.length from c9),mZ ("*NXbSOx)Kv}&{-i5.Y9zB3kwY`%=%#",b3,l8),Bc ("$?z~?^T^v*zXQV)E4lQ%k-q?5Mff`9VMCxrJn`$&#",b3,l8,rfl),mT ("P31m.vIv=>&$#"),mT ("(WPE6{Wk$G4_U$#"),mT ("(Ws7T1UrO/H6x$#"),show 24+152+(2*c8+lz pg (p+8)-2*(2*24+152))-32=2*c8+lz pg (p+8)-256 by exact("Su4fB#A#QL?DTlA.u:sWjB~6;Ex^FnzT*`u^P'PQ5aCzJVWb>.V46nW8x3awU(#",e2,("%"),rfl,rfl)]
   .rw[mT c9,mT (show¬p+9<=8*pg.length from c9)]
  .rw[mT c8,mT (show¬p+7+1<=8*pg.length from c8)]
 .rw[mT c];by_cases c2:(6=0∨p+6<=8*pg.length)
  .rw[mZ c2,qr,mT ("([:_2eE16;W6ft9s9%#",c)]
  .rw[mT c2]
theorem K5(pg:Pg)(p:Nat):pG pg (nH KY) (oO KY) p=yq pg 5 p:=by
 rw[Pz.2,PA.2,HJ (n:=4) ("") ("")];unfold yq;let b1:=pD pg<|p+4;let h4:=vR pg p 4;let h5:uB pg p 5=2*uB pg p 4+lz pg (p+4):=rfl;by_cases c:p+5<=8*pg.length
 .rw[mZ (".BJ;QCY8*Vk%gzH?7m?_s%#",c),mZ c,qr,mZ ("$|]oX{QK4VvX=#Fc%#",c)];rw[h5,show([0,0,0,0,0,32,0,0,0,0,0,0,0,0,0,0]:List Nat).getD (4+1) 0=32 from rfl,mZ ("uD)M[r'ZVQKdcB7.:)V%#",b1,h4),iq,Nat.sub_zero,bq,jb ("&SnHmqjE?Pz[Vb8,p+%#",b1,h4)];rfl
 .rw[mT c];by_cases c2:(4=0∨p+4<=8*pg.length)
  .rw[mZ c2,qr,mT ("([:_1_(9#/$}:9pqc%#",c)]
  .rw[mT c2]
def mB(pg:Pg)(s:MS)(r:M7):Prop:=∃k,runM pg k s=r
abbrev qu(p:Nat)(out:List UInt8)(last:Bool)(bks:Option<|Bk×Bk):MS:=⟨p,out,last,ag,bks,0⟩
section
variable{pg:Pg}{p st p1 p2 p3 p4 sg w x1 x2 k:Nat}{out:List UInt8}{last:Bool}{bks:Option (Bk×Bk)}{a b:Bk}{r:M7}{s s':MS}
theorem K6(k:Nat)(hd:s.done=ag)(hl:s.out.length+s.stored<=100000):runM pg (k+1) s=match vW pg s with
  |.bad=>.bad
  |.pd=>.pd
  |.go s=>runM pg k s:=(mT<|fi.mpr hl).trans (mT (by rw[hd];exact cA))
theorem mB.go(hd:s.done=ag)(hl:s.out.length+s.stored<=100000)(h:vW pg s=.go s')(q:mB pg s' r):mB pg s r:=by obtain⟨k,q⟩:=q;exact⟨k+1,by rw[K6 k hd hl];rw[h];exact q⟩
theorem mB.bad(hd:s.done=ag)(hl:s.out.length+s.stored<=100000)(h:vW pg s=.bad):mB pg s .bad:=⟨1,by rw[K6 0 hd hl];exact bF h▸rfl⟩
theorem mB.fin(hl:out.length<=400):mB pg (qu p out af aI) (.told out ((p+7)/8)):=
 let h:out.length+0<=100000:=("9YyVx<AnbV~Q#`p$#",hl)
 .go rfl h (s':=⟨p,out,af,af,aI,0⟩) rfl ⟨1,(mT<|fi.mpr h).trans (mZ rfl)⟩
theorem l4(hl:out.length<=400):out.length+0<=100000:=("9YyVx<AnbV~Q#`p$#",hl)
theorem yy:KZ pg a b (qu p out last<|aq (a,b))=match pG pg a.1 a.2 p with
  |none=>.bad
  |some (sg,p1)=>if sg<256 then .go (qu p1 (out++[sg.toUInt8]) last<|aq (a,b))else if sg=256 then .go (qu p1 out last aI)else tE pg b (sg-257) (qu p1 out last<|aq (a,b)):=rfl
theorem mB.no(hl:out.length<=400)(e:pG pg a.1 a.2 p=aI):mB pg (qu p out last<|aq (a,b)) .bad:=.bad rfl (l4 hl) (yy.trans (by exact bF e▸rfl))
theorem mB.byte(hl:out.length<=400)(e:pG pg a.1 a.2 p=aq (sg,p1))(c:sg<256):mB pg (qu p1 (out++[sg.toUInt8]) last<|aq (a,b)) r->mB pg (qu p out last<|aq (a,b)) r:=.go rfl (l4 hl) (yy.trans (by rw[e];exact mZ c))
theorem mB.end_(hl:out.length<=400)(e:pG pg a.1 a.2 p=aq (sg,p1))(c:sg=256):mB pg (qu p1 out last aI) r->mB pg (qu p out last<|aq (a,b)) r:=.go rfl (l4 hl) (yy.trans (by rw[e];subst c;rfl))
theorem Es(e:pG pg a.1 a.2 p=aq (sg,p1))(c:256<sg):vW pg (qu p out last<|aq (a,b))=tE pg b (sg-257) (qu p1 out last<|aq (a,b)):=yy.trans (by rw[e];exact(mT ("(UZzs#W:fmxb6$#",c)).trans (mT ("(UZzs#yD}QE}($#",c)))
theorem Et(c:29<=k):tE pg b k s=.bad:=mZ c
theorem HL(c:k<29)(e:nU pg (nL k).2 s.p=aI):tE pg b k s=.bad:=(mT<|jG.mpr c).trans (by exact bF e▸rfl)
theorem zz(c:k<29)(e:nU pg (nL k).2 s.p=aq (x1,p2)):tE pg b k s=CJ pg b ((nL k).1+x1) ⟨p2,s.out,s.last,s.done,s.bks,s.stored⟩:=(mT<|jG.mpr c).trans (by exact bF e▸rfl)
theorem HM(e:pG pg b.1 b.2 s.p=aI):CJ pg b k s=.bad:=by unfold CJ;exact bF e▸rfl
theorem Eu(e:pG pg b.1 b.2 s.p=aq (w,p3)):CJ pg b k s=xe pg k w ⟨p3,s.out,s.last,s.done,s.bks,s.stored⟩:=by unfold CJ;exact bF e▸rfl
theorem Ev(c:30<=w):xe pg k w s=.bad:=mZ c
theorem HN(c:w<30)(e:nU pg (pf w).2 s.p=aI):xe pg k w s=.bad:=(mT<|jG.mpr c).trans (by exact bF e▸rfl)
theorem Ew(c:w<30)(e:nU pg (pf w).2 s.p=aq (x2,p4))(h:s.out.length<(pf w).1+x2):xe pg k w s=.bad:=(mT<|jG.mpr c).trans (by rw[e];exact mZ h)
theorem HO(c:w<30)(e:nU pg (pf w).2 s.p=aq (x2,p4))(h:(pf w).1+x2<=s.out.length):xe pg k w s=.go ⟨p4,qh ((pf w).1+x2) k s.out,s.last,s.done,s.bks,s.stored⟩:=(mT<|jG.mpr c).trans (by rw[e];exact mT<|fi.mpr h)
theorem mB.XT(hl:out.length<=400)(e:pG pg a.1 a.2 p=aq (sg,p1))(c:256<sg)(h:tE pg b (sg-257) (qu p1 out last<|aq (a,b))=.bad):mB pg (qu p out last<|aq (a,b)) .bad:=.bad rfl (l4 hl) ((Es e c).trans h)
theorem mB.copy{p':Nat}{o':List UInt8}(hl:out.length<=400)(e:pG pg a.1 a.2 p=aq (sg,p1))(c:256<sg)(h:tE pg b (sg-257) (qu p1 out last<|aq (a,b))=.go (qu p' o' last<|aq (a,b))):mB pg (qu p' o' last<|aq (a,b)) r->mB pg (qu p out last<|aq (a,b)) r:=.go rfl (l4 hl) ((Es e c).trans h)
theorem PB{b2:Bool}{v:Nat}(c:k<29)(f:b2=ag->nU pg (nL k).2 s.p=aq (v,p2))(t:b2=af->nU pg (nL k).2 s.p=aI)(h:b2=af∨pG pg b.1 b.2 p2=aI):tE pg b k s=.bad:=by
 cases b2 with
 |true=>exact HL c (t rfl)
 |false=>exact(zz c<|f rfl).trans (HM<|h.resolve_left cA)
def Vf.bk:Vf->Bk×Bk
 |.QU=>(qF J8,qF KY)
 |.own a b=>(a,b)
theorem zA{n:Nat}(h:p+n<=8*pg.length):nU pg n p=aq (mE pg p n,p+n):=mZ h
theorem CK{n:Nat}(h:¬p+n<=8*pg.length):nU pg n p=aI:=mT h
theorem Ex:vW pg (qu p out ag aI)=match nU pg 1 p with
  |none=>.bad
  |some (l,p1)=>match nU pg 2 p1 with
   |none=>.bad
   |some (kind,p2)=>xF pg kind (qu p2 out (l==1) aI):=rfl
theorem mB.short(hl:out.length<=400)(c:8*pg.length<p+3):mB pg (qu p out ag aI) .bad:=.bad rfl (l4 hl) (Ex.trans (by
 by_cases c1:p+1<=8*pg.length
 .rw[zA c1];dsimp only;rw[CK ("*}'EgCVGEc+:.4*CW3%#",c)]
 .exact bF (CK c1)▸rfl))
theorem qM(c:p+3<=8*pg.length):vW pg (qu p out ag aI)=xF pg (mE pg (p+1) 2) (qu (p+3) out (mE pg p 1==1) aI):=Ex.trans (by rw[zA (show p+1<=_ by exact("$|]oXGeMER](i`2D%#",c))];dsimp only;rw[zA (show p+1+2<=_ by exact("Pw,25[ZQ|6.+l[-k{%#",c))])
theorem mB.XU(hl:out.length<=400)(c:p+3<=8*pg.length)(e:mE pg (p+1) 2=3):mB pg (qu p out ag aI) .bad:=.bad rfl (l4 hl) ((qM c).trans (by rw[e];rfl))
theorem mB.XV(hl:out.length<=400)(c:p+3<=8*pg.length)(e:mE pg (p+1) 2=1):mB pg (qu (p+3) out (mE pg p 1==1)<|aq (qF J8,qF KY)) r->mB pg (qu p out ag aI) r:=.go rfl (l4 hl) ((qM c).trans (by rw[e];rfl))
theorem Ey:xF pg 2 (qu p out last aI)=match rI pg p with
  |.bad=>.bad
  |.pd=>.pd
  |.ok p a b=>.go (qu p out last<|aq (a,b)):=rfl
theorem mB.XW{p':Nat}(hl:out.length<=400)(c:p+3<=8*pg.length)(e:mE pg (p+1) 2=2)(h:rI pg (p+3)=.ok p' a b):mB pg (qu p' out (mE pg p 1==1)<|aq (a,b)) r->mB pg (qu p out ag aI) r:=.go rfl (l4 hl) ((qM c).trans (by rw[e];rw[Ey];exact bF h▸rfl))
theorem mB.Vh(hl:out.length<=400)(c:p+3<=8*pg.length)(e:mE pg (p+1) 2=2)(h:rI pg (p+3)=.bad):mB pg (qu p out ag aI) .bad:=.bad rfl (l4 hl) ((qM c).trans (by rw[e];rw[Ey];exact bF h▸rfl))
theorem zB{q:Nat}(hq:q=(p+7)/8):xF pg 0 (qu p out last aI)=if pg.length<q+4 then .bad else
 if mE pg (8*q) 16+mE pg (8*q+16) 16=65535 then .go ⟨8*(q+4),out,last,ag,aI,mE pg (8*q) 16⟩else .bad:=by subst hq;rfl
theorem mB.PC{q:Nat}(hl:out.length<=400)(c:p+3<=8*pg.length)(e:mE pg (p+1) 2=0)(hq:q=(p+3+7)/8)(h:pg.length<q+4):mB pg (qu p out ag aI) .bad:=.bad rfl (l4 hl) ((qM c).trans (by rw[e];rw[zB hq];exact bF (mZ h)▸rfl))
theorem mB.Vi{q:Nat}(hl:out.length<=400)(c:p+3<=8*pg.length)(e:mE pg (p+1) 2=0)(hq:q=(p+3+7)/8)(h:q+4<=pg.length)(s:mE pg (8*q) 16+mE pg (8*q+16) 16≠65535):mB pg (qu p out ag aI) .bad:=
 .bad rfl (l4 hl) ((qM c).trans (by rw[e];rw[zB hq];refine bF (mT<|fi.mpr h)▸?_;exact bF (mT s)▸rfl))
theorem HP{q m:Nat}(hl:out.length<=400)(c:p+3<=8*pg.length)(e:mE pg (p+1) 2=0)(hq:q=(p+3+7)/8)(h:q+4<=pg.length)(hm:m=mE pg (8*q) 16)(s:m+mE pg (8*q+16) 16=65535):mB pg ⟨8*(q+4),out,mE pg p 1==1,ag,aI,m⟩ r->mB pg (qu p out ag aI) r:=
 .go rfl (l4 hl) ((qM c).trans (by subst hm;rw[e];rw[zB hq];refine bF (mT<|fi.mpr h)▸?_;exact bF (mZ s)▸rfl))
theorem Ez{q m:Nat}(c:0<m):vW pg ⟨8*q,out,last,ag,aI,m⟩=if q+m<=pg.length then .go (qu (8*(q+m)) (out++(pg.drop q).take m) last aI)else .bad:=by refine(mZ c).trans ?_;unfold Bb;exact bF (show(8*q+7)/8=q by exact("P,k;+*LNH5b5UJY;c%#",rfl))▸rfl
theorem mB.Vj{q m:Nat}(hl:out.length<=400)(c:p+3<=8*pg.length)(e:mE pg (p+1) 2=0)(hq:q=(p+3+7)/8)(h:q+4<=pg.length)(hm:m=mE pg (8*q) 16)(s:m+mE pg (8*q+16) 16=65535)(g:pg.length<q+4+m):mB pg (qu p out ag aI) .bad:=
 HP hl c e hq h hm s (.bad rfl (show out.length+m<=_ by exact("T958U5S.[qnE3Q~WQ|=(xTS&#",hl,s)) ((Ez ("R:Z6$?Yr?miVy*;b~&#",h,g)).trans (mT<|jG.mpr g)))
theorem mB.XX{q m:Nat}(hl:out.length<=400)(c:p+3<=8*pg.length)(e:mE pg (p+1) 2=0)(hq:q=(p+3+7)/8)(h:q+4<=pg.length)(hm:m=mE pg (8*q) 16)(s:m+mE pg (8*q+16) 16=65535)(g:q+4+m<=pg.length)
  (k:mB pg (qu (8*(q+4+m)) (out++(pg.drop<|q+4).take m) (mE pg p 1==1) aI) r):mB pg (qu p out ag aI) r:=by
 refine HP hl c e hq h hm s ?_;by_cases z:m=0
 .rw[z,kC,ju]at k;rw[z];exact k
 .exact .go rfl (show out.length+m<=_ by exact("T958U5S.[qnE3Q~WQ|=(xTS&#",hl,s)) ((Ez ("(MK`<p6K&c$$#",z)).trans (mZ g)) k
end
def OL(out:List UInt8):AO:=.list (out.map λb=>.int (b.toNat:Nat))
structure NG(H:AH)(ms:List bp)(a:bp)(bk:Bk)(c t:bp):Prop where
 n1:a∉ms
 n2:c∉ms
 n3:t∉ms
 h1:H a=aq (.tup [.ref c,.ref t])
 h2:H c=aq (NL bk.1)
 h3:H t=aq (NL bk.2)
 ok:J5 bk.1 bk.2
theorem NG.keep{H H':AH}{ms:List bp}{a c t:bp}{bk:Bk}(k:lY ms H H')(h:NG H ms a bk c t):NG H' ms a bk c t:=⟨h.n1,h.n2,h.n3,k _ _ h.h1 h.n1,k _ _ h.h2 h.n2,k _ _ h.h3 h.n3,h.ok⟩
inductive tF(H:AH)(ms:List bp):V->Vf->Prop
 |QU:tF H ms .none .QU
 |own {t x y c d e f a b}:t∉ms->H t=aq (.tup [.ref x,.ref y])->NG H ms x a c d->NG H ms y b e f->tF H ms (.ref t) (.own a b)
theorem tF.keep{H H':AH}{ms:List bp}{v:V}{bks:Vf}(k:lY ms H H')(h:tF H ms v bks):tF H' ms v bks:=by
 induction h with
 |QU=>exact .QU
 |own n h1 h2 h3=>exact .own n (k _ _ h1 n) (h2.keep k) (h3.keep k)
theorem NE.le{pg:Pg}{s:bp}{H:AH}{b pd:Bool}{lQ:Int}{r:Option (Nat×Nat)}{B B':Nat}{Q:V->AH->Prop}(l:B<=B')(h:NE pg s H b pd lQ r B' Q):NE pg s H b pd lQ r B Q:=⟨h.ok,λe v H' p' l'=>h.no e v H' p'<|hH l' l⟩
theorem NE.u{pg:Pg}{s:bp}{H:AH}{b pd:Bool}{lQ:Int}{r:Option (Nat×Nat)}{B:Nat}{Q:V->AH->Prop}(hB:∀v p',r=aq (v,p')->v<B)
  (h:∀v p' b' H',v<B->lY [s] H H'->H' s=aq (SD pg p' b' pd lQ)->(b'=ag->b=ag/\r=aq (v,p'))->(b'=af->b=af∨r=aI)->Q (.int (v:Nat)) H'):NE pg s H b pd lQ r B Q:=
 ⟨λe v p' er H' k q=>h v p' ag H' (hB v p' er) k q (λ_=>⟨e,er⟩) (λc=>by cases c),λe v H' p' hv k q=>h v p' af H' hv k q (λc=>by cases c) λ_=>e⟩
section
variable{H:AH}{s:bp}{pg:Pg}{p v p':Nat}{b pd:Bool}{lQ:Int}{Q:V->AH->Prop}{E:AH->Prop}{nw:List (Nat×bu)}{ms:List bp}{bv:V}{bks:Vf}
theorem Vk(hs:H s=aq (SD pg p b pd lQ))(hb:tF H ms bv bks)(hl:pg.length<=100000)(h:NE pg s H b pd lQ (pG pg bks.bk.1.1 bks.bk.1.2 p) 1000000000000000 Q):
  mO bv.isNone (kT (cx nw 4) 290 [.ref s] H Q E) (aSub bv (λy H=>kT (cx nw 4) 276 [.ref s,y] H Q E) (.int 0) H):=by
 induction hb with
 |QU=>exact lC (lw rfl ("")<|Pt hs hl<|K1 pg p▸h)
 |@own t x y c d e f a b n h1 h2 h3=>exact lD<|iL h1<|iS (v:=.ref x) rfl<|lw rfl ("")<|FA hs h2.h1 h2.h2 h2.h3 h2.ok hl<|h.le ("")
theorem Vl(hs:H s=aq (SD pg p b pd lQ))(hb:tF H ms bv bks)(hl:pg.length<=100000)(h:NE pg s H b pd lQ (pG pg bks.bk.2.1 bks.bk.2.2 p) 1000000000000000 Q):
  mO bv.isNone (kT (cx nw 4) 283 [.ref s,.int 5] H Q E) (aSub bv (λy H=>kT (cx nw 4) 276 [.ref s,y] H Q E) (.int 1) H):=by
 induction hb with
 |QU=>exact lC (lw rfl ("")<|KU (lH:=5) hs ("") ("") hl<|(K5 pg p▸h:NE pg s H b pd lQ (yq pg 5 p) _ Q).le (""))
 |@own t x y c d e f a b n h1 h2 h3=>exact lD<|iL h1<|iS (v:=.ref y) rfl<|lw rfl ("")<|FA hs h3.h1 h3.h2 h3.h3 h3.ok hl<|h.le ("")
theorem Vm(hb:tF H ms bv bks)(h:pG pg bks.bk.1.1 bks.bk.1.2 p=aq (v,p')):v<1000/\p'<=8*pg.length:=by
 induction hb with
 |QU=>exact M6 ((K1 pg p).symm.trans h)
 |own _ _ h2 _=>exact yv h2.ok.b h
theorem PD(hb:tF H ms bv bks)(h:pG pg bks.bk.2.1 bks.bk.2.2 p=aq (v,p')):v<1000/\p'<=8*pg.length:=by
 induction hb with
 |QU=>let l:=HH<|(K5 pg p).symm.trans h;exact⟨hH l.1 (""),l.2⟩
 |own _ _ _ h2=>exact yv h2.ok.b h
end
theorem K7{H:AH}{Q:V->AH->Prop}{E:AH->Prop}{k:Nat}{z:Int}(hz:z=(k:Nat))(hk:k<=28)(h:∀a H',lY [] H H'->H a=aI->H' a=aq (.tup [.int (nL k).1,.int (nL k).2])->Q (.ref a) H'):mH 1 (.ref 297) [.int z] H Q E:=by subst hz;exact RX hk h
def FF(s o:bp)(bv:V)(x3 x4 x5 x6 x7 x8:Option V):Loc:=[aq (.ref s),aq<|.ref o,aq bv,x3,x4,x5,x6,x7,x8,aI,aI,aI,aI,aI,aI,aI,aI,aI]
theorem XY{out:List UInt8}{i:Int}{k:Nat}(hi:i=(k:Nat))(lt:k<out.length):qA (out.map λb=>iR (b.toNat:Nat)) i=aq (.int ((out.getD k 0).toNat:Nat)):=by subst hi;unfold qA;rw[mZ (Int.natCast_nonneg k),i9,cj,bU lt,bq,bU lt];rfl
theorem Vn(out:List UInt8)(sg:Nat)(h:sg<256):jr ((out.map λb=>iR (b.toNat:Nat))++[iR (sg:Nat)])=OL (out++[sg.toUInt8]):=by unfold OL;rw[i6,List.map_singleton,show(sg.toUInt8).toNat=sg from Nat.mod_eq_of_lt h]
theorem YM{s o:bp}(so:s≠o):o∉[s]:=λm=>so (aH.mp m).symm
theorem XZ(s o x:bp)(m:x∈[s]):x∈[s,o]:=by rw[aH.mp m];exact .head _
section
variable{H:AH}{s o:bp}{pg:Pg}{p p' sg d:Nat}{bk:Int}{out:List UInt8}{last:Bool}{bv:V}{bks:Vf}{x3 x4 x5 x6 x7 x8:Option V}{E:AH->Prop}{N C:Loc->AH->Prop}{R:V->AH->Prop}
theorem Vo(so:s≠o){size lQ:Nat}{z y:Int}(hz:z=(size:Nat))(hy:y=(lQ:Nat))(hs:H s=aq (SD pg p ag ag bk))(ho:H o=aq (OL out))(b1:1<=lQ)(b2:lQ<=out.length)(hl:out.length<=400)(hn:size<=70000)
  (h:∀h' x8 b9,lY [s,o] H h'->h' s=aq (SD pg p ag ag b9)->h' o=aq (OL<|qh lQ size out)->N (FF s o bv x3 x4 x5 (aq<|.int z) (aq<|.int y) x8) h'):
  (En).ev (FF s o bv x3 x4 x5 (aq<|.int z) (aq<|.int y) x8) H E N C R:=by
 subst hz hy;refine iL hs<|iL hs<|iM (ak rfl)<|iM (";LuHCSG`=nGwFEh|nWykBJe[_):=<]Q$#",hn) ?_;refine lq [Option V,Int] (λ_ x _=>FF s o bv x3 x4 x5 (aq<|.int (size:Nat)) (aq<|.int (lQ:Nat)) x) (λi _ b9 h=>A3 (h s=aq (SD pg p ag ag b9)) (h o=aq (OL<|qh lQ i out))<|lY [s,o] H h) ⟨x8,_,⟨lT _ _ _,by rw[lV so.symm];exact ho,lY.refl.upd<|.head _⟩,rfl⟩ ?_ ?_
 .intro i h K hi nx x b9 j;let hi:i<size:=("'U^(Jg~X{HYyfR3+W&#",hi,rfl);let r2:=j.h2;let ln:=we lQ i out;refine iL r2 (iL r2<|iL r2<|iS (XY (k:=(qh lQ i out).length-lQ) (by rw[cF];exact("Efa2LAOXfa.mU4#<>bu<v)E%aIh&(#",b2,ln,rfl)) ("xTrO[^#[|#)CYZwl_*Q:4RBf6(#",b1,b2,ln,rfl))<|iL r2<|iM (by rw[cF];exact("$,vi10dbn&']J;w<:DcDa]^05#B$oP'#",hl,hn,hi,ln))<|nx _ _ b9 ⟨by rw[lV so];exact j.h1,?_,j.h3.upd<|.tail _ (.head _)⟩);rw[lT,xD];unfold OL;rw[i6];rfl
 .intro h' x b9 j;let e:((size:Int)-0).toNat=size:=("6jDaobybc)q<,~P%#",rfl);rw[e]at j;exact h h' x b9 j.h3 j.h1 j.h2
theorem Vp(so:s≠o){size:Nat}{z:Int}(hz:z=(size:Nat))(hs:H s=aq (SD pg p ag ag bk))(ho:H o=aq (OL out))(hp:p<=8*pg.length)(pl:pg.length<=100000)(hl:out.length<=400)(hn:size<=70000)(hd:d<30)
  (bad:xe pg size d (qu p out last<|aq bks.bk)=.bad->∀h' p' f b9,lY [s,o] H h'->h' s=aq (SD pg p' af f b9)->R .none h')
  (go:∀p' o',xe pg size d (qu p out last<|aq bks.bk)=.go (qu p' o' last<|aq bks.bk)->o'.length=out.length+size->∀h' x4 x5 x7 x8 b9,lY [s,o] H h'->h' s=aq (SD pg p' ag ag b9)->h' o=aq (OL o')->N (FF s o bv (aq<|.int (d:Nat)) x4 x5 (aq<|.int z) x7 x8) h'):
  (Cm).ev (FF s o bv (aq<|.int (d:Nat)) x4 x5 (aq<|.int z) x7 x8) H E N C R:=by
 have fz:=KW (k:=d)<|iC hd;refine lw rfl ("")<|Ps (k:=d) (iC hd) λa2 H5 k5 xB t2=>iL t2 ?_;have s5:=k5 _ _ hs iN;have o5:=k5 _ _ ho iN;have kk5:lY [s,o] H H5:=k5.more λx m=>(iN m).elim;clear xB t2 k5 hs ho;refine lw rfl ("")<|rN (lH:=(pf d).2) s5 ("7/(.{&(3F;jl+S[x7jm%#",fz) pl (λ_=>hp)<|.u (λv p' e=>hH (qi e).1 (zV ("7/(.{&(3F;jl+S[x7jm%#",fz))) λv2 p4 b4 H6 F2 k6 s6 f6 t6=>?_;have o6:=k6 _ _ o5<|YM so;have V4:=kk5.trans<|k6.more<|XZ s o;clear o5 kk5 k6 s5;have PE:xe pg size d (qu p out last<|aq bks.bk)=.bad->∀{Vq Ka},R .none (upd H6 s<|SD pg p4 af Vq Ka):=λe _ _=>bad e _ p4 _ _ (V4.upd<|.head _)<|lT _ _ _;cases b4 with
 |true=>exact iL s6 (lC<|lC<|iL s6<|iM (ak rfl)<|PE<|HN hd<|(t6 rfl).resolve_left cA)
 |false=>
  let e:=(f6 rfl).2;refine iL s6<|lD<|iL o6<|iQ (λc=>?_) λc=>lD ?_
  .let c:=pN c;rw[cF]at c;exact lC (iL s6<|iM (ak rfl)<|PE<|Ew hd e (by show out.length<_;exact("$zi~6d&}:~4*F>&#",c)))
  .have c:=pZ c;rw[cF]at c;exact Vo so hz (lQ:=(pf d).1+v2) ("qk-:yYB.aqF%#") s6 o6 (":UA*>2T`fTEDL:R5/Ic4M&#",fz) ("C4~Ba4o_XuqF/h&#",c) hl hn λh' x8 b9 k a b=>go p4 _ (HO hd e (by show _<=out.length;exact("C4~Ba4o_XuqF/h&#",c))) (we _ _ _) h' _ _ _ x8 b9 (V4.trans k) a b
theorem Vr(so:s≠o)(hs:H s=aq (SD pg p ag ag bk))(ho:H o=aq (OL out))(hb:tF H [s,o] bv bks)(hp:p<=8*pg.length)(pl:pg.length<=100000)(hl:out.length<=400)(c1:256<sg)(c2:sg<286)
  (bad:tE pg bks.bk.2 (sg-257) (qu p out last<|aq bks.bk)=.bad->∀h' p' f b9,lY [s,o] H h'->h' s=aq (SD pg p' af f b9)->R .none h')
  (go:∀p' o',tE pg bks.bk.2 (sg-257) (qu p out last<|aq bks.bk)=.go (qu p' o' last<|aq bks.bk)->out.length<o'.length->o'.length<=100000->∀h' x3 x4 x5 x6 x7 x8 b9,lY [s,o] H h'->h' s=aq (SD pg p' ag ag b9)->h' o=aq (OL o')->N (FF s o bv x3 x4 x5 x6 x7 x8) h'):
  (Cn).ev (FF s o bv (aq<|.int (sg:Nat)) x4 x5 x6 x7 x8) H E N C R:=by
 have c3:sg-257<29:=("]M^k?v-J,/J|jZ;,mR%#",c2,rfl);have sz:=HG (k:=sg-257)<|iC c3;refine lw rfl ("")<|K7 (k:=sg-257) ("7wcY__t`*NhP+q5lKWayt<ob3%#",c1,rfl) (iC c3) λa1 H2 k2 wR t1=>iL t1 ?_;have s2:=k2 _ _ hs iN;have o2:=k2 _ _ ho iN;have K8:lY [s,o] H H2:=k2.more λx m=>(iN m).elim;clear wR t1 k2 hs ho;refine lw rfl ("")<|rN (lH:=(nL<|sg-257).2) s2 ("??5N.>)%XaDVo2>^Z_%#",sz) pl (λ_=>hp)<|.u (λv p' e=>hH (qi e).1 (zV ("??5N.>)%XaDVo2>^Z_%#",sz))) λv1 p2 b2 H3 F1 k3 s3 f3 t3=>?_;have o3:=k3 _ _ o2<|YM so;have X0:=K8.trans<|k3.more<|XZ s o;clear o2 s2 K8 k3;refine Vl s3 (hb.keep X0) pl<|.u (λv p' e=>hH (PD hb e).1 ("")) λd p3 b3 H4 hd k4 s4 f4 t4=>?_;have o4:=k4 _ _ o3<|YM so;have Ty:=X0.trans<|k4.more<|XZ s o;clear o3 s3 X0 k4;have PF:tE pg bks.bk.2 (sg-257) (qu p out last<|aq bks.bk)=.bad->∀{Vq Ka},R .none (upd H4 s<|SD pg p3 af Vq Ka):=λe _ _=>bad e _ p3 _ _ (Ty.upd<|.head _)<|lT _ _ _;cases b3 with
 |true=>exact iL s4 (lC<|lC<|iL s4<|iM (ak rfl)<|PF<|PB c3 (λe=>(f3 e).2) (λe=>(t3 e).resolve_left cA)<|t4 rfl)
 |false=>
  let e1:=(f4 rfl).1;let e2:=(f4 rfl).2;have ec:=(zz (b:=bks.bk.2) c3 (s:=qu p out last<|aq bks.bk) (f3 e1).2).trans (Eu e2);clear f3 t3 f4 t4 e1;refine iL s4<|lD<|iQ (λc=>?_) λc=>lD ?_
  .let c:=pN c;exact lC<|iL s4<|iM (ak rfl)<|PF<|ec.trans<|Ev ("Nus2=n#'v$#",c)
  .have c:=pZ c;exact Vp so (size:=(nL<|sg-257).1+v1) ("qk-:yYB.aqF%#") s4 o4 (PD hb e2).2 pl hl (":jh`mlDt,{KdMGk$jBK5x~|pH-LH.&#",sz,F1) ("*m)]^f5qYt$#",c) (λe h' p' f b9 k=>bad (ec.trans e) h' p' f b9<|Ty.trans k) λp' o' e l h' x4 x5 x7 x8 b9 k=>go p' o' (ec.trans e) ("H6`hD46b-t+n&GU{[t96=?%}Q&(#",sz,l) ("X9y1d#ljMKv054s,vL~x>K[oFTT~k)z/6=<=<]U(#",hl,sz,F1,l) h' _ _ _ _ _ _ b9<|Ty.trans k
theorem R3{Q:V->AH->Prop}(hs:H s=aq (SD pg p ag ag bk))(ho:H o=aq (OL out))(hb:tF H [s,o] bv bks)(pl:pg.length<=100000)(hol:out.length<=100000)
  (hf:∀p' out',out'.length<=400->(∀r,mB pg (qu p' out' last aI) r->mB pg (qu p out last<|aq bks.bk) r)->∀H' b9,lY [s,o] H H'->H' s=aq (SD pg p' ag ag b9)->H' o=aq (OL out')->Q .none H')
  (Vs:mB pg (qu p out last<|aq bks.bk) .bad->∀H' p' f b9,lY [s,o] H H'->H' s=aq (SD pg p' af f b9)->Q .none H')
  (R4:∀H' p' b9,lY [s,o] H H'->H' s=aq (SD pg p' ag af b9)->Q .none H'):mH 4 (.ref 311) [.ref s,.ref o,bv] H Q E:=by
 have so:s≠o:=λe=>by rw[e,ho]at hs;cases hs
 refine nS (n:=3) Jo G5 .nil rfl ?_;refine F0.tl [Option V,Option V,Option V,Option V,Option V,Option V,Nat,List UInt8,Bool,Int] (λ_ x3 x4 x5 x6 x7 x8 _ _ _ _=>FF s o bv x3 x4 x5 x6 x7 x8)
  (λk _ _ _ _ _ _ p' out' bd b9 h=>A6 (h s=aq (SD pg p' bd ag b9)) (h o=aq (OL out')) (lY [s,o] H h) (out'.length<=100000) (bd=af->mB pg (qu p out last<|aq bks.bk) .bad)
   (bd=ag->(∀r,mB pg (qu p' out' last<|aq bks.bk) r->mB pg (qu p out last<|aq bks.bk) r)/\402<=k+out'.length)) 402
  ⟨aI,aI,aI,aI,aI,aI,p,out,ag,bk,⟨hs,ho,.refl,hol,λe=>(by cases e),λ_=>⟨λ_ h=>h,jz _ _⟩⟩,rfl⟩ ?_
 clear hs ho hol;rintro k h K nx x3 x4 x5 x6 x7 x8 p' out' bd b9 ⟨q1,q2,q3,q4,q6,q5⟩;have leave:(bd=af∨400<out'.length)->(Em).ev (FF s o bv x3 x4 x5 x6 x7 x8) h E (λ_ H=>Q .none H) (λ_ _=>False) Q:=λc=>by
  refine iL q1<|iM (ak rfl) ?_;have kk:lY [s,o] H (upd h s<|SD pg p' bd af b9):=q3.upd<|.head _;cases bd with
  |true=>exact Vs (q6 rfl) _ p' af b9 kk (lT _ _ _)
  |false=>exact R4 _ p' b9 kk<|lT _ _ _
 refine iL q1 (iQ (λc=>?_) λc=>⟨λe=>(by cases e),λ_=>leave<|.inl (by cases bd;cases c;rfl)⟩);cases bd with
 |true=>cases c
 |false=>
  refine iL q2 (iQ (λc2=>⟨λ_=>?_,λe=>(by cases e)⟩) λc2=>⟨λe=>(by cases e),λ_=>leave<|.inr ?_⟩)
  .have c2:=pN c2;rw[cF]at c2;have hl:out'.length<=400:=("%lPppv*3$J;Ul$#",c2);obtain⟨e1,e2⟩:=q5 rfl;clear leave q5 q6 c c2;refine Vk q1 (hb.keep q3) pl ⟨λ_ sg p1 e3 H1 k1 s1=>?_,λe v H1 p1 hv k1 s1=>?_⟩
   .have kk:=q3.trans (k1.more<|XZ s o);have o1:=k1 _ _ q2<|YM so;have pp:=Vm hb e3;refine iL s1<|lD<|iQ (λc=>?_) λc=>lD ?_
    .let c:=pN c;exact lC<|hf _ _ hl (λr h=>e1 r<|mB.end_ hl e3 (".25WIKw?4H)k<cf$#",c) h) _ _ kk s1 o1
    .have c:=pZ c;refine iQ (λc=>?_) λc=>?_
     .have c:=pN c;refine iL o1 (iL o1<|iM (by rw[cF];exact("%m^i(RzTzfxv4o$$#",hl))<|nx (k-1) _ ("$&/V8fO#5krQ9#QP#n-(f|d,&#",hl,e2,rfl) (aq<|.int sg) x4 x5 x6 x7 x8 p1 (out'++[sg.toUInt8]) ag b9 ⟨by rw[lV so];exact s1,?_,kk.upd<|.tail _ (.head _),?_,λe=>(by cases e),λ_=>⟨λr h=>e1 r<|mB.byte hl e3 ("%jmNy#>d+h`Y>$#",c) h,?_⟩⟩)
      .rw[lT,Vn out' sg ("%jmNy#>d+h`Y>$#",c)]
      .rw[cz];show out'.length+1<=_;exact id<|kO 0xa70d4045048030c809400021 ("$") hl
      .rw[cz];show _<=k-1+(out'.length+1);exact id<|kJ 0x163d2163c41210c41e484a009001584003c9094043 ("$") e2 rfl
     .have c:=pZ c;refine iQ (λc=>?_) λc=>?_
      .have c:=pN c;exact iL s1 (iM (ak rfl)<|nx (k-1) _ ("$&/V8fO#5krQ9#QP#n-(f|d,&#",hl,e2,rfl) (aq<|.int sg) x4 x5 x6 x7 x8 p1 out' af b9 ⟨lT _ _ _,by rw[lV so.symm];exact o1,kk.upd<|.head _,q4,λ_=>e1 _<|mB.XT hl e3 ("%gmXm&/b?K>3b$#",c)<|Et ("$ln2th?TI9i)AT[d]]|a%#",c,rfl),λe=>by cases e⟩)
      .have c:=pZ c;refine Vr so s1 o1 (hb.keep kk) pp.2 pl hl ("(-7>Pjl9X{oUGy]VA%XMK$#",(by assumption),(by assumption)) ("PNSR^&/rL5ty0$#",c) (λe h' p' f b9 k=>Vs (e1 _<|mB.XT hl e3 ("(-7>Pjl9X{oUGy]VA%XMK$#",(by assumption),(by assumption)) e) h' p' f b9<|kk.trans k) λp' o' e l l' h' x3 x4 x5 x6 x7 x8 b9 k' a b=>
        nx (k-1) h' ("$&/V8fO#5krQ9#QP#n-(f|d,&#",hl,e2,rfl) x3 x4 x5 x6 x7 x8 p' o' ag b9 ⟨a,b,kk.trans k',l',λe=>(by cases e),λ_=>⟨λr h=>e1 r (mB.copy hl e3 ("(-7>Pjl9X{oUGy]VA%XMK$#",(by assumption),(by assumption)) e h),("+t$]SL+cU^gyoq[I#QSeql_zeTgD'#",e2,l,rfl)⟩⟩
   .exact iL s1<|lC<|lC<|Vs (e1 _<|mB.no hl<|e.resolve_left cA) _ _ _ _ (q3.trans<|k1.more<|XZ s o) s1
  .have c2:=pZ c2;rw[cF]at c2;exact("Ot#vrd7?`h7H$$#",c2)
end
theorem lY.any{ms:List bp}{H H':AH}(k:lY [] H H'):lY ms H H':=k.more λ_ m=>(iN m).elim
theorem lY.oY{ms:List bp}{H H':AH}{a:bp}{o:AO}(k:lY ms H H')(m:H a=aI):lY ms H (Mine.upd H' a o):=λx o' h n=>by
 let ne:x≠a:=λe=>by let h:=e▸h;let h:=m▸h;exact pB h
 rw[lV ne];exact k x o' h n
theorem lY.nn{s:bp}{H h:AH}{o:AO}(k:lY [s] H h)(hs:h s=aq o){a:bp}(n:h a=aI):H a=aI:=by
 cases e:H a with
 |none=>rfl
 |some o'=>
  let ne:a≠s:=λq=>by let n:=q▸n;let n:=hs▸n;exact rQ n
  let:=k a o' e λm=>ne<|aH.mp m;let this:=n▸this;exact pB this
theorem l9{H:AH}{a b:bp}{o:AO}(h:H a=aq o)(n:H b=aI):a≠b:=λe=>by let h:=e▸h;let h:=n▸h;exact pB h
theorem CL(l:List Nat)(i x:Nat):jr ((l.map λ(n:Nat)=>iR n).set i (.int (x:Nat)))=NL (l.set i x):=by rw[J7];rfl
theorem oZ(a b:List Nat):jr ((a.map λ(n:Nat)=>iR n)++b.map λ(n:Nat)=>iR n)=NL (a++b):=by refine i6▸?_;rfl
theorem mxn{L k:Nat}:(max 0<|min (k:Int) (L:Int)).toNat=min k L:=by
 rcases Nat.le_total k L with h|h
 .rw[iE h,Int.min_eq_left<|Int.ofNat_le.mpr h,Int.max_eq_right<|Int.natCast_nonneg k];rfl
 .rw[jA h,Int.min_eq_right<|Int.ofNat_le.mpr h,Int.max_eq_right<|Int.natCast_nonneg L];rfl
theorem xG{L k:Nat}:clipAt L (k:Int)=min k L:=by unfold clipAt;rw[mT ("(>47iFQ$#")];exact mxn
theorem PG(l:List Nat):mK (l.map λ(n:Nat)=>iR n) (aq<|-1) aI=(sK l).map λ(n:Nat)=>iR n:=by
 unfold mK sK;show jO (iD _-clipAt _ _) (kh (clipAt _ _) _)=_;let e:clipAt (iD<|je (λ(n:Nat)=>iR n) l) (-1)=l.length-1:=by
  rw[cF];unfold clipAt;rw[mZ ("")];cases l.length with
  |zero=>rfl
  |succ n=>rw[show(-1:Int)+((n+1:Nat):Int)=n from("Jbm5m1`xX|W$#")];exact mxn.trans<|iE<|Nat.le_succ n
 rw[e,kc,g6];rw[jd];exact("n_&86$#")
theorem PH(l:List Nat)(k:Nat):mK (l.map λ(n:Nat)=>iR n) aI (aq (k:Int))=(l.take k).map λ(n:Nat)=>iR n:=by
 unfold mK;show jO (clipAt _ _-0) (kh 0 _)=_;let e:clipAt (iD<|je (λ(n:Nat)=>iR n) l) (k:Int)=min k l.length:=by rw[cF];exact xG
 rw[e,List.drop_zero,List.map_take,Nat.sub_zero]
 conv=>lhs;rw[<-cF (λ(n:Nat)=>iR n) (as:=l)]
 rw[<-kM,js]
theorem HQ(l:List Nat)(k:Nat):mK (l.map λ(n:Nat)=>iR n) (aq (k:Int)) aI=(l.drop k).map λ(n:Nat)=>iR n:=by
 unfold mK;show jO (iD _-clipAt _ _) (kh (clipAt _ _) _)=_;let e:clipAt (iD<|je (λ(n:Nat)=>iR n) l) (k:Int)=min k l.length:=by rw[cF];exact xG
 rw[e,g6 (by rw[jd];exact("n_&86$#")),kc];by_cases h:k<=l.length
 .rw[iE h]
 .rw[jA ("zl)*M|}0L%#",h),io (by rw[cF];exact("n_&86$#")),io (by rw[cF];exact("zl)*M|}0L%#",h))]
theorem Bf{H:AH}{K:V->AH->Prop}{m y:bp}{lU l:List Nat}{n:Nat}{z:Int}(hz:z=(n:Nat))(hn:n<=1000)(hl:l.length<=1)(PI:lU.length<=1000)(hy:H y=aq (NL l))(hm:H m=aq (NL lU))
  (hK:∀m' H',lY [] H H'->H m'=aI->H' m'=aq (NL<|lU++oy n l)->K (.ref m') H'):EP .Mult (.ref y) (EP .Add (.ref m) K) (.int z) H:=by
 subst hz;have b:l.length*n<=1000:=gq (Nat.mul_le_mul hl hn) ("");have nn:((n:Nat):Int).toNat=n:=("s4RlOb-;:~iss%#",rfl);refine iL hy (iM ⟨⟨("(ZvIuSc<&0zh4^wan$#"),("RMWe[f=^4AV}IxocFx9_r$#",hn)⟩,by rw[cF,nn];exact("([<R.&v*s/2?Nm<$#",b)⟩<|iP λx hx=>?_);let mx:m≠x:=l9 hm hx;refine iL (o:=NL lU) (by rw[lV mx];exact hm)<|iL (o:=NL<|oy n l) ?_<|iM ?_<|iP λm' KI=>hK m' _ ((lY.refl.new hx).new KI) ?_ ?_
 .rw[lT,nn,rP];rfl
 .rw[cF,cF,pW,Nat.mul_comm];exact("'6Sx)=a<;y~6c(5OteYl|m%#",PI,b)
 .have:m'≠x:=λe=>by rw[e,lT]at KI;exact rQ KI
  rw[lV this]at KI;exact KI
 .rw[lT];exact congrArg aq<|oZ _ _
section
variable{H:AH}{s:bp}{pg:Pg}{p:Nat}{b pd:Bool}{lQ:Int}{Q:V->AH->Prop}{E:AH->Prop}
theorem sq(hs:H s=aq (SD pg p b pd lQ)){lH:Nat}(hm:lH<=63)(hl:pg.length<=100000)(h0:0<lH)
  (h:∀v p' b' H',v<2^lH->lY [s] H H'->H' s=aq (SD pg p' b' pd lQ)->(b'=ag->b=ag/\nU pg lH p=aq (v,p'))->(b'=af->b=af∨nU pg lH p=aI)->Q (.int (v:Nat)) H'):mH 1 (.ref 257) [.ref s,.int lH] H Q E:=by
 refine KT hs hm hl (λv p' e H' k q=>h v p' b H' (qi e).1 k q (λc=>⟨c,e⟩) λc=>.inl c) (λe H' p' k q=>?_) λc=>("$zjAQm2hz>G5'p&#",h0,c);exact h 0 p' af H' (jT _) k q (λc=>by exact Nu c) λ_=>.inr e
end
theorem FG(k:Nat):vQ.getD k 0<19:=by
 refine bF bq▸?_;cases e:vQ[k]? with
 |none=>simp
 |some x=>
  let:∀x∈vQ,x<19:=by decide
  exact this x<|bR e
theorem PJ{l:List V}{i:Int}{v:V}{k:Nat}(hi:i=(k:Nat))(h:l[k]?=aq v):qA l i=aq v:=by subst hi;unfold qA;rw[mZ (Int.natCast_nonneg k),i9,h]
theorem K9{k:Nat}(h:k<19):qA (vQ.map λ(n:Nat)=>iR n) (k:Int)=aq (.int (vQ.getD k 0:Nat)):=pE h
section
variable{pg:Pg}{p lit all Bd:Nat}{hl lU:List Nat}{bk:Bk}{k sg p1 p2:Nat}{l':List Nat}
theorem FH(h:8*pg.length<p+14):rI pg p=.bad:=mZ h
theorem Kb(h:p+14<=8*pg.length)(c:286<257+mE pg p 5∨30<1+mE pg (p+5) 5):rI pg p=.pd:=(mT<|fi.mpr h).trans (mZ c)
theorem M8(h:p+14<=8*pg.length)(c:¬(286<257+mE pg p 5∨30<1+mE pg (p+5) 5)):rI pg p=vV pg (257+mE pg p 5) (257+mE pg p 5+(1+mE pg (p+5) 5)) (4+mE pg (p+10) 4) (p+14):=(mT<|fi.mpr h).trans (mT c)
theorem M9(h:8*pg.length<p+3*Bd):vV pg lit all Bd p=.bad:=mZ h
theorem Na(h:p+3*Bd<=8*pg.length):vV pg lit all Bd p=vU pg lit all (HI pg p Bd) (p+3*Bd):=mT<|fi.mpr h
theorem Nb(h:pV (nH hl) (oO hl) ag=ag):vU pg lit all hl p=.bad:=mT (by rw[h];exact cA)
theorem Nc(h:pV (nH hl) (oO hl) ag=af):vU pg lit all hl p=rH lit all (pH pg (qF hl) all 317 p []):=mZ h
theorem EA(h:lU.length<all)(e:pX pg bk lU p=aI):pH pg bk all (k+1) p lU=aI:=(mT<|jG.mpr h).trans (by exact bF e▸rfl)
theorem Nd(h:lU.length<all)(e:pX pg bk lU p=aq (l',p1)):pH pg bk all (k+1) p lU=pH pg bk all k p1 l':=(mT<|jG.mpr h).trans (by exact bF e▸rfl)
theorem HR(e:pG pg bk.1 bk.2 p=aI):pX pg bk lU p=aI:=by unfold pX;exact bF e▸rfl
theorem HS(e:pG pg bk.1 bk.2 p=aq (sg,p1)):pX pg bk lU p=nQ pg lU sg p1:=by unfold pX;exact bF e▸rfl
theorem HT(h:sg<16):nQ pg lU sg p=aq (lU++[sg],p):=mZ h
theorem CN:nQ pg lU 16 p=if lU=[]then aI else(nU pg 2 p).map λr=>(lU++oy (3+r.1) (sK lU),r.2):=rfl
theorem CO:nQ pg lU 17 p=(nU pg 3 p).map λr=>(lU++oy (3+r.1) [0],r.2):=rfl
theorem CP(h:17<sg):nQ pg lU sg p=(nU pg 7 p).map λr=>(lU++oy (11+r.1) [0],r.2):=(mT ("{pyV;_;mE$#",h)).trans ((mT ("{pyWfWLV($#",h)).trans (mT ("{vo6ia[AW$#",h)))
theorem Nf(h:all<lU.length∨lU.getD 256 0=0):rH lit all (aq (lU,p))=.bad:=mZ h
theorem Kc(h:¬(all<lU.length∨lU.getD 256 0=0))(c:(pV (nH<|lU.take lit) (oO<|lU.take lit) af&&pV (nH<|lU.drop lit) (oO<|lU.drop lit) af)=ag):rH lit all (aq (lU,p))=.bad:=(mT h).trans (mT (by rw[c];exact cA))
theorem Ng(h:¬(all<lU.length∨lU.getD 256 0=0))(c:(pV (nH<|lU.take lit) (oO<|lU.take lit) af&&pV (nH<|lU.drop lit) (oO<|lU.drop lit) af)=af):rH lit all (aq (lU,p))=.ok p (qF<|lU.take lit) (qF<|lU.drop lit):=(mT h).trans (mZ c)
end
structure xH(pg:Pg)(s:bp)(ms:List bp)(H:AH)(lQ:Int)(r:Tw)(R:V->AH->Prop):Prop where
 nm:∀x∈ms,H x≠aI
 bad:r=.bad->∀v H' p' f b9,lY [s] H H'->H' s=aq (SD pg p' af f b9)->R v H'
 pd:r=.pd->∀v H' p' b9,lY [s] H H'->H' s=aq (SD pg p' ag af b9)->R v H'
 ok:∀p' a b,r=.ok p' a b->∀t H',lY [s] H H'->H' s=aq (SD pg p' ag ag lQ)->tF H' ms t (.own a b)->R t H'
def AS(s:bp)(lit dist Bd:Int)(v4 v5 v6 v7 v8:Option V):Loc:=[aq (.ref s),aq<|.int lit,aq<|.int dist,aq<|.int Bd,v4,v5,v6,v7,v8,aI,aI,aI,aI,aI,aI]
section
variable{H:AH}{s m:bp}{ms:List bp}{pg:Pg}{p L D:Nat}{lit dist Bd lQ:Int}{lU:List Nat}{v5 v6 v7 v8:Option V}{E:AH->Prop}{N C:Loc->AH->Prop}{R:V->AH->Prop}{r:Tw}{bd:Bool}
theorem xH.go{r':Tw}{h:AH}{o:AO}(q:xH pg s ms H lQ r R)(k:lY [s] H h)(hs:h s=aq o)(e:r=r'):xH pg s ms h lQ r' R:=
 e▸⟨λx m n=>q.nm x m<|k.nn hs n,λe v H' p' f b k'=>q.bad e v H' p' f b<|k.trans k',λe v H' p' b k'=>q.pd e v H' p' b<|k.trans k',λp' a b e t H' k'=>q.ok p' a b e t H'<|k.trans k'⟩
theorem xH.out{h:AH}(q:xH pg s ms H lQ r R)(n:h m=aI)(k:lY [s] H h){o:AO}(hs:h s=aq o):m∉ms:=λx=>q.nm m x<|k.nn hs n
theorem xH.leave(q:xH pg s ms H lQ .bad R){v:V}{f:Bool}{b9:Int}{p':Nat}:R v (upd H s<|SD pg p' af f b9):=q.bad rfl _ _ _ _ _ (lY.refl.upd<|.head _)<|lT _ _ _
theorem FJ{l:bp}{Q:V->AH->Prop}(hl:H l=aq (NL lU))(hs:H s=aq (SD pg p bd ag lQ))(nm:∀x∈ms,H x≠aI)(hn:lU.length<=900)(hb:∀x∈lU,x<=15)
  (hq:∀H' t c d,lY [] H H'->H t=aI->H' s=aq (SD pg p bd ag lQ)->NG H' ms t (qF lU) c d->NG H' [s] t (qF lU) c d->Q (.ref t) H'):mH 1 (.ref 262) [.ref l] H Q E:=
 RZ hl (gq hn ("")) hb λH' t c d k nt nc nd ht hc hd=>by
  let ok:J5 (qF lU).1 (qF lU).2:=HF hn hb;let ns:∀{x:bp},H x=aI->x∉[s]:=λn m=>by let n:=(aH.mp m)▸n;let n:=hs▸n;exact rQ n
  exact hq H' t c d k nt (k _ _ hs iN) ⟨λm=>nm _ m nt,λm=>nm _ m nc,λm=>nm _ m nd,ht,hc,hd,ok⟩ ⟨ns nt,ns nc,ns nd,ht,hc,hd,ok⟩
theorem NG.fit{t c d:bp}{ns:List bp}{bk:Bk}{yt:Bool}{Q:V->AH->Prop}(h:NG H ns t bk c d)(hq:Q (.bool (pV bk.1 bk.2 yt)) H):mH 1 (.ref 269) [.ref t,.bool yt] H Q E:=Ve h.h1 h.h2 h.h3 h.ok hq
theorem R5(hs:H s=aq (SD pg p ag ag lQ))(hm:H m=aq (NL lU))(l5:lU.length<=500)(lb:∀x∈lU,x<=15)(hL:lit=(L:Nat)){all:Nat}(c:¬(all<lU.length∨lU.getD 256 0=0))(q:xH pg s ms H lQ (rH L all<|aq (lU,p)) R):
  (Co).ev (AS s lit dist Bd (aq<|.ref m) v5 v6 v7 v8) H E N C R:=by
 subst hL;refine iL hm<|iP λl1 YN=>?_;have s1:upd H l1 (.list (mK (lU.map λ(n:Nat)=>iR n) aI<|aq ((L:Nat):Int))) s=aq (SD pg p ag ag lQ):=by refine bF (lV<|l9 hs YN)▸?_;exact hs
 have m1:upd H l1 (.list (mK (lU.map λ(n:Nat)=>iR n) aI<|aq ((L:Nat):Int))) m=aq (NL lU):=by refine bF (lV<|l9 hm YN)▸?_;exact hm
 have l1:=(lT H l1<|.list (mK (lU.map λ(n:Nat)=>iR n) aI<|aq ((L:Nat):Int))).trans (congrArg (λl=>aq<|jr l)<|PH lU L);have k1:=(ly (ms:=[s]) (H:=H)).new (o:=.list (mK (lU.map λ(n:Nat)=>iR n) aI<|aq ((L:Nat):Int))) YN;revert s1 m1 l1 k1;generalize upd H _ _=H1;intro s1 m1 l1 k1;have q:=q.go k1 s1 rfl;clear k1 hs hm YN;refine lw rfl ("") (FJ l1 s1 q.nm (by rw[eW];exact(":?c~FM*+4J1Y*J{lrT:&#",l5,rfl)) (λy m=>lb y<|iZ m) λH2 x c1 d1 k2 nx s2 bx _=>?_);have m2:=k2 _ _ m1 iN;have q:=q.go k2.any s2 rfl;clear k2 s1 m1 l1 nx;refine iL m2<|iP λl2 R1=>?_;have s3:upd H2 l2 (.list (mK (lU.map λ(n:Nat)=>iR n) (aq ((L:Nat):Int)) aI)) s=aq (SD pg p ag ag lQ):=by refine bF (lV<|l9 s2 R1)▸?_;exact s2
 have l2:=(lT H2 l2<|.list (mK (lU.map λ(n:Nat)=>iR n) (aq ((L:Nat):Int)) aI)).trans (congrArg (λl=>aq<|jr l)<|HQ lU L);have k3:=(ly (ms:=[]) (H:=H2)).new (o:=.list (mK (lU.map λ(n:Nat)=>iR n) (aq ((L:Nat):Int)) aI)) R1;have bx:=bx.keep k3.any;revert s3 l2 k3 bx;generalize upd H2 _ _=H3;intro s3 l2 k3 bx;have q:=q.go k3.any s3 rfl;clear k3 s2 m2 R1;refine lw rfl ("") (FJ l2 s3 q.nm (by rw[jd];exact("($dB//k=#s,/Ks>OpEY&#",l5,rfl)) (λy m=>lb y<|iX m) λH4 y c2 d2 k4 ny s4 V5 _=>?_);have bx:=bx.keep k4.any;have q:=q.go k4.any s4 rfl;clear k4 s3 l2 ny;refine iM (ak rfl)<|iP λz hz=>?_;let z5:=lT H4 z<|.tup [.ref x,.ref y];have s5:upd H4 z (.tup [.ref x,.ref y]) s=aq (SD pg p ag ag lQ):=by refine bF (lV<|l9 s4 hz)▸?_;exact s4
 have k5:=(ly (ms:=[]) (H:=H4)).new (o:=.tup [.ref x,.ref y]) hz;let zm:=q.out hz .refl s4;let bx:=bx.keep k5.any;let V5:=V5.keep k5.any;let q:=q.go k5.any s5 rfl;clear hz s4;revert z5 s5 bx V5 q;generalize upd H4 _ _=H5;intro z5 s5 bx V5 q;let zs:z∉[s]:=λm=>by let z5:=(aH.mp m)▸z5;have z5:=s5▸z5;cases z5
 have last:∀w,w=!(pV (nH<|lU.take L) (oO<|lU.take L) af&&pV (nH<|lU.drop L) (oO<|lU.drop L) af)->R (.ref z) (upd H5 s<|SD pg p w ag lQ):=λw e=>by
  let k6:=(ly (ms:=[s]) (H:=H5)).upd (o:=SD pg p w ag lQ) (.head _);cases w with
  |true=>exact q.bad (Kc c (by cases h:(pV (nH<|lU.take L) (oO<|lU.take L) af&&pV (nH<|lU.drop L) (oO<|lU.drop L) af);rfl;rw[h]at e;exact Nu e)) _ _ _ _ _ k6 (lT _ _ _)
  |false=>
   have ob:∀{a:bp}{o:AO},H5 a=aq o->(∀es,o≠.sd es)->upd H5 s (SD pg p ag ag lQ) a=aq o:=λh n=>by rw[lV];exact h;intro e;let h:=e▸h;let h:=s5▸h;obtain rfl:=(qz h).symm;exact n _ rfl
   let no:∀{t:bp}{bk:Bk}{c d:bp},NG H5 ms t bk c d->NG (upd H5 s<|SD pg p ag ag lQ) ms t bk c d:=λb=>⟨b.n1,b.n2,b.n3,ob b.h1 (λ_ e=>by cases e),ob b.h2 (λ_ e=>by cases e),ob b.h3 (λ_ e=>by cases e),b.ok⟩;exact q.ok _ _ _ (Ng c (by cases h:(pV (nH<|lU.take L) (oO<|lU.take L) af&&pV (nH<|lU.drop L) (oO<|lU.drop L) af);have e:=h▸e;cases e;rfl)) _ _ k6 (lT _ _ _) (.own zm (ob z5 λ_ e=>by cases e) (no bx) (no V5))
 refine iL z5<|iS (v:=.ref x) rfl<|lw rfl ("")<|bx.fit<|iQ (λf1=>iL s5<|iM (ak rfl)<|last af ?_) λf1=>iL z5<|iS (v:=.ref y) rfl<|lw rfl ("")<|V5.fit<|iL s5<|iM (ak rfl)<|last _ ?_
 .revert f1;show(!(pV (nH<|lU.take L) (oO<|lU.take L) af))=af->_;cases pV (nH<|lU.take L) (oO<|lU.take L) af
  .intro;rfl
  .intro e;exact xL e
 .revert f1;show(!(pV (nH<|lU.take L) (oO<|lU.take L) af))=ag->_;cases pV (nH<|lU.take L) (oO<|lU.take L) af
  .intro e;exact Nu e
  .intro;rfl
theorem La(hs:H s=aq (SD pg p bd ag lQ))(hm:H m=aq (NL lU))(l5:lU.length<=500)(lb:∀x∈lU,x<=15)(hL:lit=(L:Nat))(hD:dist=(D:Nat))(hl:bd=ag->L+D<=lU.length)(Tz:257<=L)(q:bd=af->xH pg s ms H lQ .bad R)(q':bd=ag->xH pg s ms H lQ (rH L (L+D)<|aq (lU,p)) R):
  (Cp).ev (AS s lit dist Bd (aq<|.ref m) v5 v6 v7 v8) H E N C R:=by
 cases bd with
 |true=>exact iL hs (lC<|lC<|iL hs<|iM (ak rfl) (q rfl).leave)
 |false=>
  let q':=q' rfl;let hl:=hl rfl;have w:∀{v:V}{b9:Int}{p':Nat}{f:Bool},(L+D<lU.length∨lU.getD 256 0=0)->R v (upd H s<|SD pg p' af f b9):=λc=>(q'.go .refl hs (Nf c)).leave;refine iL hs (lD<|iL hm<|iQ (λc2=>lC<|iL hs<|iM (ak rfl)<|w<|.inl (by let c2:=pN c2;rw[cF]at c2;exact("GIT#o2Fg]mK^UZBMFyrz8j&%",hL,hD,c2))) λc2=>iL hm ?_);let c2:=pZ c2;rw[cF]at c2;refine iS (v:=.int (lU.getD 256 0:Nat)) (pE (i:=256) ("&]N>5YgI5A'>7=GL6A&#",Tz,hl)) (iQ (λc3=>lC<|iL hs<|iM (ak rfl)<|w<|.inr (by let c3:=pN c3;exact("$ye*&js.1+bS$#",c3))) λc3=>lD ?_);let c3:=pZ c3;exact R5 hs hm l5 lb hL ("%3X</#9I<,&bNMSNh~~4MI+7z`}/l|9#Fu'%",hL,hD,c2,c3) q'
theorem PK{h:AH}{K:Loc->AH->Prop}(pl:pg.length<=100000)(s7:h s=aq (SD pg p (decide<|lU=[]) ag lQ))(m7:h m=aq (NL lU))(sm:s≠m)(k7:lY [s] H h)(l3:lU.length<=315)(lb:∀x∈lU,x<=15)
  (nx:∀h' m' v5 v7 p' bd l',h' s=aq (SD pg p' bd ag lQ)->h' m'=aq (NL l')->H m'=aI->lY [s] H h'->l'.length<=500->(∀x∈l',x<=15)->(bd=ag->nQ pg lU 16 p=aq (l',p')/\lU.length<l'.length)->(bd=af->nQ pg lU 16 p=aI)->K (AS s lit dist Bd (aq<|.ref m') v5 v6 v7 v8) h'):
  (Cq).ev (AS s lit dist Bd (aq<|.ref m) v5 v6 v7 v8) h E K K R:=by
 let YO:m∉[s]:=λc=>sm (aH.mp c).symm;refine iL m7<|iP λy hy=>?_;rw[PG];have sy:s≠y:=l9 s7 hy;refine lw rfl ("") (sq (lH:=2) (by rw[lV sy];exact s7) ("") pl ("") λv p3 Lb H8 hv k8 s8 f8 t8=>?_);let ky:=(k7.new (o:=.list ((sK lU).map λ(n:Nat)=>iR n)) hy).trans k8;let y8:=k8 _ _ (lT _ y _) λc=>sy (aH.mp c).symm;let m8:=k8 _ _ (by rw[lV (l9 m7 hy)];exact m7) YO;clear m7 k7 hy k8;have ll:(sK lU).length<=1:=by unfold sK;rw[jd];exact("%IFS_)?f9G__&U?,-TGf072&#",("%"),rfl)
 let hv:v<4:=hv;let lm:(3+v)*(sK lU).length<=6:=gq (Nat.mul_le_mul (("$DX>TV5Dbr>$#",(by assumption)):3+v<=6) ll) ("");refine Bf (n:=3+v) ("'p74/kO]9oY$#") ("d20v^ykF}-8[$#",(by assumption)) ll ("d20v^wj_{VcA$#",l3) y8 m8 λm' H9 k9 KI q9=>nx H9 m' _ _ p3 Lb (lU++oy (3+v) (sK lU)) (k9 _ _ s8 iN) q9 (ky.nn s8 KI) (ky.trans k9.any) ?_ ?_ (λe=>?_) λe=>?_
 .rw[cz,pW];exact("RR-P>G8F8nia^zY3{%#",l3,lm)
 .intro y0 my0;rcases aE.mp my0 with q|q
  .exact lb y0 q
  .exact lb y0<|iX<|rD q
 .let e1:=(f8 e).1;let e2:=(f8 e).2;let nn:lU≠[]:=pZ e1;refine⟨by rw[CN,mT nn,e2];rfl,?_⟩;let:(sK lU).length=1:=by
   unfold sK;let:=jc.mpr nn;rw[jd];exact("$r7ZO_0]1(ero?jliAL~/-F#eW&#",this,("%"),rfl)
  rw[cz,pW,this];exact("(JM{Nm92er]%#")
 .rw[CN];rcases t8 e with q|q
  .exact mZ<|pN q
  .rw[q];split<;>rfl
theorem R6{sg:Nat}{h:AH}{K:Loc->AH->Prop}(pl:pg.length<=100000)(hs:h s=aq (SD pg p ag ag lQ))(hm:h m=aq (NL lU))(sm:s≠m)(hM:H m=aI)(k:lY [s] H h)(l3:lU.length<=315)(lb:∀x∈lU,x<=15)
  (nx:∀h' m' v5 v7 p' bd l',h' s=aq (SD pg p' bd ag lQ)->h' m'=aq (NL l')->H m'=aI->lY [s] H h'->l'.length<=500->(∀x∈l',x<=15)->(bd=ag->nQ pg lU sg p=aq (l',p')/\lU.length<l'.length)->(bd=af->nQ pg lU sg p=aI)->K (AS s lit dist Bd (aq<|.ref m') v5 v6 v7 v8) h'):
  (zQ).ev (AS s lit dist Bd (aq<|.ref m) v5 v6 (aq<|.int (sg:Nat)) v8) h E K K R:=by
 have YO:m∉[s]:=λc=>sm (aH.mp c).symm;refine iQ (λc=>?_) λc=>iQ (λc2=>?_) λc2=>?_
 .let c:=pN c;refine iL hm (iL hm<|iM (by rw[cF];exact("%m^i(RzTzG$ifY.$#",l3))<|nx _ m _ _ p ag (lU++[sg]) (by rw[lV sm];exact hs) ((lT _ _ _).trans (congrArg aq<|oZ lU [sg])) hM (k.oY hM) ?_ ?_ (λ_=>⟨HT ("OI|<7hv&:$#",c),?_⟩) λe=>by exact xL e)
  .rw[cz];show _+1<=_;exact id<|kO 0xa7e8250480309d89400021 ("$") l3
  .intro y my;rcases aE.mp my with q|q
   .exact lb y q
   .rw[aH.mp q];exact("OG%LOgfj`$#",c)
  .rw[cz];show _<_+1;exact("5cEuU*|$#")
 .let c2:=pN c2;obtain rfl:sg=16:=("$ye*Vr%id5>&$#",c2);clear c c2;refine iL hs (lD<|iM (ak rfl)<|iP λz hz=>iL (o:=NL lU) (by rw[lV (l9 hm hz)];exact hm)<|iL (lT _ _ _)<|iM (.inr rfl)<|iL (o:=SD pg p ag ag lQ) (by rw[lV (l9 hs hz)];exact hs)<|iM (ak rfl) ?_);let be:((je (λ(n:Nat)=>iR n) lU).isEmpty&&List.isEmpty ([]:List V))=decide (lU=[]):=by cases lU<;>rfl
  rw[be];exact PK pl (lT _ _ _) (by rw[lV sm.symm,lV<|l9 hm hz];exact hm) sm ((k.new hz).upd (.head _)) l3 lb nx
 .have c:=pZ c;have c2:=pZ c2;let fin:∀(n p3:Nat)(Lb:Bool)(H8:AH)(y:bp)(v5:Option V),n<=138->3<=n->lY [s] H H8->H8 s=aq (SD pg p3 Lb ag lQ)->H8 y=aq (NL [0])->H8 m=aq (NL lU)->(Lb=ag->nQ pg lU sg p=aq (lU++oy n [0],p3))->(Lb=af->nQ pg lU sg p=aI)->∀z:Int,z=(n:Nat)->
    EP .Mult (.ref y) (EP .Add (.ref m) λv h=>K (AS s lit dist Bd (aq v) v5 v6 (aq<|.int (sg:Nat)) v8) h) (.int z) H8:=λn p3 Lb H8 y v5 n1 n2 ky s8 y8 m8 w3 w4 z hz=>by
   refine Bf (n:=n) hz ("CXWzn{>h0f]Y$#",n1) ("") ("d20v^wj_{VcA$#",l3) y8 m8 λm' H9 k9 KI q9=>nx H9 m' _ _ p3 Lb (lU++oy n [0]) (k9 _ _ s8 iN) q9 (ky.nn s8 KI) (ky.trans k9.any) ?_ ?_ (λe=>⟨w3 e,?_⟩) w4
   .rw[cz,pW];show _+n*1<=_;exact("$OmI]7$y84nbYQflLil~a%#",l3,n1)
   .intro y0 my0;rcases aE.mp my0 with q|q
    .exact lb y0 q
    .rw[aH.mp (rD q)];decide
   .rw[cz,pW];show _<_+n*1;exact("Bso$J>*n?5;=%#",n2)
  refine iM (ak rfl)<|iP λy hy=>?_;have sy:s≠y:=l9 hs hy;have s7:upd h y (.list [.int 0]) s=aq (SD pg p ag ag lQ):=by rw[lV sy];exact hs
  have y7:=lT h y<|.list [.int 0];have m7:upd h y (.list [.int 0]) m=aq (NL lU):=by refine bF (lV<|l9 hm hy)▸?_;exact hm
  have k7:=k.new (o:=.list [.int 0]) hy;revert s7 y7 m7 k7;generalize upd h y _=h7;intro s7 y7 m7 k7;clear hs hm k hy nx;have nys:y∉[s]:=λc=>sy (aH.mp c).symm;refine iQ (λc3=>lw rfl ("")<|sq (lH:=3) s7 ("") pl ("") λv p3 Lb H8 hv k8 s8 f8 t8=>?_) λc3=>lw rfl ("")<|sq (lH:=7) s7 ("") pl ("") λv p3 Lb H8 hv k8 s8 f8 t8=>?_
  .have c3:=pN c3;let hv:v<8:=hv;obtain rfl:sg=17:=("$ye*Ylqm=ujt$#",c3);exact fin (3+v) p3 Lb H8 y _ ("2]O>U^32Q00&$#",(by assumption)) ("yoHRkUd$#") (k7.trans k8) s8 (k8 _ _ y7 nys) (k8 _ _ m7 YO) (λe=>by rw[CO];refine bF ((f8 e).2)▸?_;rfl) (λe=>by rw[CO];refine bF ((t8 e).resolve_left cA)▸?_;rfl) _ ("'p74/kO]9oY$#")
  .have c3:=pZ c3;let hv:v<128:=hv;let e18:17<sg:=("&HqU*EWEPzGVITuvU[uYeA$#",c,c2,c3);exact fin (11+v) p3 Lb H8 y _ ("$|m]fOkgWrL=?U$#",(by assumption)) ("yoXtb;I$#") (k7.trans k8) s8 (k8 _ _ y7 nys) (k8 _ _ m7 YO) (λe=>by rw[CP e18];refine bF ((f8 e).2)▸?_;rfl) (λe=>by rw[CP e18];refine bF ((t8 e).resolve_left cA)▸?_;rfl) _ ("'p77*ZQ8Y%f$#")
theorem R7{t c d:bp}{ls:List Nat}{Bd:Int}{v4 v5 v7 v8:Option V}{H:AH}(pl:pg.length<=100000)(hs:H s=aq (SD pg p ag ag lQ))(hL:lit=(L:Nat))(hD:dist=(D:Nat))(Tz:257<=L)(ld:L+D<=316)(bk:NG H [s] t (qF ls) c d)
  (q:xH pg s ms H lQ (rH L (L+D)<|pH pg (qF ls) (L+D) 317 p []) R):
  (zR).ev (AS s lit dist Bd v4 v5 (aq<|.ref t) v7 v8) H E N C R:=by
 subst hL hD;refine iM (ak rfl)<|iP λm0 Py=>?_;let sm0:s≠m0:=l9 hs Py;refine F0.tl [Option V,Option V,bp,Nat,Bool,List Nat] (λ_ x5 x7 m _ _ _=>AS s (L:Nat) (D:Nat) Bd (aq<|.ref m) x5 (aq<|.ref t) x7 v8)
  (λk _ _ m p2 bd lU h=>A8 (h s=aq (SD pg p2 bd ag lQ)) (H m=aI) (h m=aq (NL lU)) (lY [s] H h) (lU.length<=500) (∀y∈lU,y<=15)
   (bd=ag->pH pg (qF ls) (L+D) 317 p []=pH pg (qF ls) (L+D) k p2 lU/\317<=k+lU.length) (bd=af->pH pg (qF ls) (L+D) 317 p []=aI)) 317
  ⟨v5,v7,m0,p,ag,[],⟨by rw[lV sm0];exact hs,Py,lT _ _ _,lY.refl.new Py,by decide,λ_ m=>(by cases m),λ_=>⟨rfl,dg _⟩,λe=>by cases e⟩,rfl⟩ ?_
 clear Py sm0;rintro k h K nx x5 x7 m p2 bd lU ⟨r1,r2,r3,r4,r5,r6,r7,r8⟩;have sm:s≠m:=l9 hs r2;refine iL r1 (iQ (λc=>?_) λc=>⟨λe=>(by cases e),λ_=>?_⟩)
 .have c:bd=ag:=by cases bd;rfl;cases c
  subst c;let w1:=(r7 rfl).1;let w2:=(r7 rfl).2;clear r7 r8;refine iL r3 (iQ (λc=>⟨λ_=>?_,λe=>(by cases e)⟩) λc=>⟨λe=>(by cases e),λ_=>?_⟩)
  .let c:=pN c;rw[cF]at c;have lt:lU.length<L+D:=("$zi~6d&}:~4*F>&#",c);obtain⟨k,rfl⟩:∃k',k=k'+1:=⟨k-1,("Wn0k,a0_c1,I4L7R+8|LTHDGy#(<>P_JqM(G>(#",ld,w2,c,rfl)⟩;let b':=bk.keep r4;clear q c;refine lw rfl ("")<|FA r1 b'.h1 b'.h2 b'.h3 b'.ok pl ⟨λ_ sg p1 e H6 k6 s6=>?_,λe v H6 p1 hv k6 s6=>?_⟩
   .have e':=HS (lU:=lU) (bk:=qF ls) e;refine R6 pl s6 (k6 _ _ r3 λc=>sm (aH.mp c).symm) sm r2 (r4.trans k6) (".g1wByig^~oY}}i1VxA&#",ld,lt) r6 λh' m' v5 v7 p' bd l' a1 a2 a3 a4 a5 a6 a7 a8=>nx k h' (dG k) v5 v7 m' p' bd l' ⟨a1,a3,a2,a4,a5,a6,λe=>?_,λe=>w1.trans<|EA lt<|e'.trans<|a8 e⟩;let b1:=(a7 e).1;let b2:=(a7 e).2;exact⟨w1.trans<|Nd lt<|e'.trans b1,("%{2=wD`e2=:]Kge[c'Ns2&#",w2,b2)⟩
   .obtain rfl:v=0:=("BeCsr[y`3($#",hv);have m6:=k6 _ _ r3 λc=>sm (aH.mp c).symm;let kk:=r4.trans k6;refine lC (iL m6<|iL m6<|iM (by rw[cF];exact("%m^i(RzT{/>#W]8$#",r5))<|nx k _ (dG k) x5 _ m p1 af (lU++[0]) ⟨by rw[lV sm];exact s6,r2,(lT _ _ _).trans (congrArg aq<|oZ lU [0]),kk.oY r2,?_,?_,λe=>(by cases e),λ_=>w1.trans<|EA lt<|HR<|e.resolve_left cA⟩)
    .rw[cz];show _+1<=_;exact("%|Zp9L(|4C|mV&uEH|u~f&#",ld,lt)
    .intro y my;rcases aE.mp my with q|q
     .exact r6 y q
     .rw[aH.mp q];exact("rR/)X##")
  .have c:=pZ c;rw[cF]at c;have c:L+D<=lU.length:=("C4~Ba4o_XuqF/h&#",c);exact La r1 r3 r5 r6 rfl rfl (λ_=>c) Tz (λe=>by cases e) λ_=>q.go r4 r1 (by rw[w1,xE c])
 .let c:bd=af:=by cases bd;cases c;rfl
  subst c;exact La r1 r3 r5 r6 rfl rfl (λe=>by cases e) Tz (λ_=>q.go r4 r1 (by rw[r8 rfl];rfl)) λe=>by cases e
theorem R8{ls:List Nat}{Bd:Int}{v5 v6 v7 v8:Option V}{H:AH}(pl:pg.length<=100000)(hs:H s=aq (SD pg p bd ag lQ))(hm:H m=aq (NL ls))(l19:ls.length=19)(lb:∀y∈ls,y<=15)(hL:lit=(L:Nat))(hD:dist=(D:Nat))(Tz:257<=L)(ld:L+D<=316)
  (nm:∀x∈ms,H x≠aI)(q:bd=af->xH pg s ms H lQ .bad R)(q':bd=ag->xH pg s ms H lQ (vU pg L (L+D) ls p) R):
  (zS).ev (AS s lit dist Bd (aq<|.ref m) v5 v6 v7 v8) H E N C R:=by
 refine lw rfl ("") (FJ hm hs nm (by rw[l19];decide) lb λH5 t c d k5 _ s5 _ bk=>?_);clear nm hm;cases bd with
 |true=>exact iL s5 (lC<|lC<|iL s5<|iM (ak rfl) ((q rfl).go k5.any s5 rfl).leave)
 |false=>
  let q':=(q' rfl).go k5.any s5 rfl;refine iL s5<|lD<|lw rfl ("")<|bk.fit<|iQ (λc=>lC<|iL s5<|iM (ak rfl) (q'.go .refl s5 (Nb ?_)).leave) λc=>lD<|R7 pl s5 hL hD Tz ld bk<|q'.go .refl s5 (Nc ?_)
  .have c:(!pV (nH ls) (oO ls) ag)=af:=c;revert c;cases pV (nH ls) (oO ls) ag;intro;rfl;intro c;exact xL c
  .have c:(!pV (nH ls) (oO ls) ag)=ag:=c;revert c;cases pV (nH ls) (oO ls) ag;intro c;exact Nu c;intro;rfl
theorem Sa{S:Nat}{Bd:Int}{v4 v5 v6 v7 v8:Option V}{H:AH}(pl:pg.length<=100000)(hs:H s=aq (SD pg p ag ag lQ))(hL:lit=(L:Nat))(hD:dist=(D:Nat))(hS:Bd=(S:Nat))(Tz:257<=L)(ld:L+D<=316)(s19:S<=19)(hp:p<=8*pg.length)
  (q:xH pg s ms H lQ (vV pg L (L+D) S p) R):(zT).ev (AS s lit dist Bd v4 v5 v6 v7 v8) H E N C R:=by
 subst hS;refine iM (ak rfl) (iP λa1 wR=>iL (lT _ _ _)<|iM ⟨by decide,ak rfl⟩<|iP λm hm=>?_);have m1:m≠a1:=λe=>by rw[e,lT]at hm;exact rQ hm
 have V2:H m=aI:=by rw[lV m1]at hm;exact hm
 have sm:s≠m:=l9 hs V2;let s5:s≠a1:=l9 hs wR;refine iM ("F#9?>_AB6/HF{q?G<Md17Eh#Sw|.$#",s19) (lq [Option V,Nat,Bool,List Nat] (λ_ x _ _ _=>AS s lit dist (S:Nat) (aq<|.ref m) x v6 v7 v8)
  (λi _ p' bd ls h=>A8 (i<=S) (h s=aq (SD pg p' bd ag lQ)) (h m=aq (NL ls)) (lY [s] H h) (ls.length=19) (∀y∈ls,y<=15) (bd=ag->A3 (ls=HI pg p i) (p'=p+3*i) (p+3*i<=8*pg.length))<|bd=af->8*pg.length<p+3*i)
  ⟨v5,p,ag,iT 19 0,⟨aR _,?_,lT _ _ _,(lY.refl.new wR).oY V2,rfl,by decide,λ_=>⟨rfl,rfl,hp⟩,λe=>by exact xL e⟩,rfl⟩ ?_ ?_)
 .rw[lV sm];rw[lV s5];exact hs
 .clear hs wR hm s5 q m1 hp;rintro i h K hi nx x p' bd ls ⟨_,q1,q2,q3,q4,q5,q6,q7⟩;have hi:i<S:=("'U^(Jg~X{HYyfR3+W&#",hi,rfl);refine lw rfl ("")<|sq (lH:=3) q1 ("") pl ("") λv p9 b9 H9 hv k9 s9 f9 t9=>?_
  let Vt:=k9 _ _ q2 λc=>sm (aH.mp c).symm;have q3':=q3.trans k9;clear q1 q2 q3 k9;refine iM (ak rfl) (iP λd V6=>iL (lT _ _ _)<|iS (v:=.int (vQ.getD i 0:Nat)) ?_<|iL (o:=NL ls) (by refine bF (lV<|l9 Vt V6)▸?_;exact Vt)<|iM ?_<|nx _ _ p9 b9 (ls.set (vQ.getD i 0) v) ⟨hi,?_,?_,(q3'.new V6).oY V2,?_,?_,λe=>?_,λe=>?_⟩)
  .rw[show(0:Int)+(i:Nat)=((i:Nat):Int)from Int.zero_add _];exact K9 (k:=i) ("Cv5kn8aZjs=c%#",s19,hi)
  .let:=FG i;rw[cF,q4];exact("PbL}Y_hF9shUEDI$#",this)
  .rw[lV sm,lV<|l9 s9 V6];exact s9
  .rw[lT,i9,CL]
  .rw[jF];exact q4
  .intro y my;rcases jo my with c|c
   .exact q5 y c
   .rw[c];exact gq (aP hv) ("")
  .let e1:=(f9 e).1;let e2:=(f9 e).2;let e3:=(q6 e1).1;let e4:=(q6 e1).2;let e5:=(q6 e1).3;let e6:=(oo e2).1;let e7:=(oo e2).2.1;let e8:=(oo e2).2.2;refine⟨?_,("io5l$AFS'Z+e*vPLEj&n3M8:ga'#",e4,e7),("&6f*c}at~L1].j6>;A{m]j2OJ;X'#",e4,e8)⟩;rw[e6];rw[e3];rw[e4];rfl
  .rcases t9 e with c|c
   .let:=q7 c;exact("%sJ&1?=2Is*gV(+~kiL{K&#",this)
   .let:=pY c;cases bd with
    |true=>have:=q7 rfl;exact("%sJ&1?=2Is*gV(+~kiL{K&#",this)
    |false=>have e4:=(q6 rfl).h2;exact("'>/S*gXujoaJjikq6h.Bs8*hE9'#",this,e4)
 .intro h x p' bd ls jj;let q1:=jj.2;let q2:=jj.3;let q3:=jj.4;let q4:=jj.5;let q5:=jj.6;let q6:=jj.7;let q7:=jj.8;rw[show(((S:Nat):Int)-0).toNat=S by exact("6jDaobybc)q<,~P%#",rfl)]at q6 q7;refine R8 pl q1 q2 q4 q5 hL hD Tz ld (q.go q3 q1 rfl).nm (λe=>q.go q3 q1<|M9<|q7 e) λe=>?_;let e1:=(q6 e).1;let e2:=(q6 e).2;let e3:=(q6 e).3;exact q.go q3 q1 ((Na e3).trans (by rw[e1];exact bF e2▸rfl))
theorem PL{Q:V->AH->Prop}(hs:H s=aq (SD pg p ag ag lQ))(pl:pg.length<=100000)(q:xH pg s ms H lQ (rI pg p) Q):mH 3 (.ref 318) [.ref s] H Q E:=by
 refine nS (n:=2) Hm yo .nil rfl ?_;refine lw rfl ("")<|sq (lH:=5) hs ("") pl ("") λv1 p1 b1 H1 F1 k1 s1 f1 t1=>?_
 refine lw rfl ("")<|sq (lH:=5) s1 ("") pl ("") λv2 p2 b2 H2 F2 k2 s2 f2 t2=>?_
 refine lw rfl ("")<|sq (lH:=4) s2 ("") pl ("") λv3 p3 b3 H3 hv3 k3 s3 f3 t3=>?_
 have n14:b3=af->8*pg.length<p+14:=λe=>jB λc=>by
  have e1:b1=ag:=by
   cases b1 with
   |false=>rfl
   |true=>have:=pY<|(t1 rfl).resolve_left cA;exact(j9 0x5345210c01068b88430041a2c42 ("$") c this).elim
  obtain⟨_,a1,_⟩:=oo (f1 e1).2;have e2:b2=ag:=by
   cases b2 with
   |false=>rfl
   |true=>have:=pY ((t2 rfl).resolve_left (by rw[e1];exact cA));exact(kJ 0xa9a29106008344a421881388430041a2c63 ("$") c a1 this).elim
  obtain⟨_,a2,_⟩:=oo (f2 e2).2;have:=pY ((t3 e).resolve_left (by rw[e2];exact cA));exact("/B/NwZK)i[qc~dC'UCq_iQ5L.tV'#",c,a1,a2,this)
 have e14:b3=ag->A5 (v1=mE pg p 5) (v2=mE pg (p+5) 5) (v3=mE pg (p+10) 4) (p3=p+14) (p+14<=8*pg.length):=λe=>by obtain⟨e,r3⟩:=f3 e;obtain⟨e,r2⟩:=f2 e;let r1:=(f1 e).2;obtain⟨x1,rfl,_⟩:=oo r1;obtain⟨x2,rfl,_⟩:=oo r2;obtain⟨x3,rfl,x4⟩:=oo r3;exact⟨x1,x2,x3,rfl,x4⟩
 let q:=q.go ((k1.trans k2).trans k3) s3 rfl;clear f1 f2 f3 t1 t2 t3 k1 k2 k3 s1 s2 hs;refine iM (ak rfl)<|iP λa0 rR=>iL (lT _ _ _) ?_;have s4:upd H3 a0 (.tup [.int (257+(v1:Nat)),.int (1+(v2:Nat)),.int (4+(v3:Nat))]) s=aq (SD pg p3 b3 ag lQ):=by refine bF (lV<|l9 s3 rR)▸?_;exact s3
 have q:=q.go (lY.refl.new rR) s4 rfl;revert s4 q;generalize upd H3 a0 (.tup [.int (257+(v1:Nat)),.int (1+(v2:Nat)),.int (4+(v3:Nat))])=H4;intro s4 q;clear rR s3;refine iL s4<|iQ (λc=>?_) λc=>?_
 .have c:b3=af:=by cases b3;cases c;rfl
  subst c;exact q.bad (FH<|n14 rfl) _ _ _ _ _ .refl s4
 .have c:b3=ag:=by cases b3;rfl;cases c
  subst c;obtain⟨x1,x2,x3,rfl,x4⟩:=e14 rfl;clear n14 e14;have PM:(286<257+v1∨30<1+v2)->∀v,Q v (upd H4 s<|SD pg (p+14) ag af lQ):=λc v=>q.pd (Kb x4 (by refine x1▸?_;refine x2▸?_;exact c)) v _ _ _ (lY.refl.upd<|.head _)<|lT _ _ _;refine iQ (λc=>lC<|iL s4<|iM (ak rfl)<|PM (.inl ?_) _) λc=>iQ (λc'=>lC<|iL s4<|iM (ak rfl)<|PM (.inr ?_) _) λc'=>lD ?_
  .let c:=pN c;exact("$#j}~#JkW3SX*y7;K,dC$#",c)
  .let c':=pN c';exact("%glZZ_lU?bWU6$#",c')
  let c:=pZ c;let c':=pZ c';exact Sa (L:=257+v1) (D:=1+v2) (S:=4+v3) pl s4 (">o).Sd_kW?GN+U$#") ("'p73HW}6wk($#") ("'p74QtgAIqr$#") ("(J):yX5z$'0$#") ("%5aXNG8,{J;27~FLi}Dyvl6QCtbWmR%#",c,c') (by let:v3<16:=hv3;exact("$El-+Xc$3?$$#",hv3)) x4 (q.go .refl s4 ((M8 x4 (by rw[<-x1,<-x2];exact("&u%>lS6}0<4si.{TOd5t;d)oEit*%W6RM]%#",c,c'))).trans (by rw[x1,x2,x3])))
end
theorem lY.fresh{ms:List bp}{H h h':AH}(k:lY [] H h)(k':lY ms h h')(f:∀x∈ms,H x=aI):lY [] H h':=λa o e _=>k' a o (k a o e iN) λm=>by let e:=(f a m)▸e;exact pB e
theorem lY.F6{H h:AH}(k:lY [] H h){a:bp}(n:h a=aI):H a=aI:=by
 cases e:H a with
 |none=>rfl
 |some o'=>let n:=(k a o' e iN)▸n;exact rQ n
theorem Lc{α:Type}(l:List α){x y:Int}{a n:Nat}(hx:x=(a:Nat))(hy:y=((a+n:Nat):Int))(h:a+n<=l.length):mK l (aq x) (aq y)=(l.drop a).take n:=by
 subst hx hy;unfold mK;show jO (clipAt _ _-clipAt _ _) (kh (clipAt _ _) _)=_;let e:∀k:Nat,k<=l.length->clipAt l.length (k:Int)=k:=λk hk=>by exact xG.trans<|iE hk
 rw[e a (",o%AhM6?H_d&#",h),e _ h,jJ]
theorem Kd(out:List UInt8):((out.map λb=>((b.toNat:Nat):Int)).map λi=>i.toNat.toUInt8)=out:=by
 rw[cO]
 conv=>rhs;rw[<-List.map_id out]
 refine dU λb _=>?_;show Nat.toUInt8 ((b.toNat:Nat):Int).toNat=b;refine bF (show((b.toNat:Nat):Int).toNat=b.toNat by exact("s4RlOb-;:~iss%#",rfl))▸?_;exact UInt8.ofNat_toNat
structure HU(pg:Pg)(s0:MS)(H:AH)(Q:V->AH->Prop):Prop where
 bad:mB pg s0 .bad->∀a H',lY [] H H'->H' a=aq (.tup [.nm 7])->Q (.ref a) H'
 pd:∀a H',lY [] H H'->H' a=aq (.tup [.nm 9])->Q (.ref a) H'
 told:∀out pl,mB pg s0 (.told out pl)->∀a H' x y,lY [] H H'->H' a=aq (.tup [.nm 49,.bytes out,.int (pl:Nat),x,y])->Q (.ref a) H'
def AT(pg:Pg)(at_:Nat)(s o kd:bp)(v5 v6 v7 v8 v9 v10:Option V):Loc:=[aq (.bytes pg),aq<|.int at_,aq<|.ref s,aq<|.ref o,aq<|.ref kd,v5,v6,v7,v8,v9,v10,aI,aI,aI,aI,aI,aI,aI]
structure Ij(H:AH)(s o kd:bp):Prop where
 so:s≠o
 sk:s≠kd
 ok:o≠kd
 s:H s=aI
 o:H o=aI
 kd:H kd=aI
structure EB(pg:Pg)(H:AH)(s o kd:bp)(ks:List V)(p:Nat)(bk:Int)(out:List UInt8)(h:AH):Prop where
 s:h s=aq (SD pg p ag ag bk)
 o:h o=aq (OL out)
 kd:h kd=aq (.list ks)
 k:lY [] H h
section
variable{H h:AH}{pg:Pg}{at_ p p0 v1:Nat}{s o kd:bp}{ks:List V}{bk:Int}{out:List UInt8}{bd pd:Bool}{s0:MS}{v5 v6 v7 v8 v9 v10:Option V}{E:AH->Prop}{N C:Loc->AH->Prop}{Q:V->AH->Prop}
theorem Ij.ns(F:Ij H s o kd):o∉[s]:=λm=>F.so (aH.mp m).symm
theorem Ij.nk(F:Ij H s o kd):kd∉[s]:=λm=>F.sk (aH.mp m).symm
theorem Ij.nk2(F:Ij H s o kd):kd∉[s,o]:=λm=>by
 rcases aA.mp m with e|m
 .exact F.sk e.symm
 .exact F.ok (aH.mp m).symm
theorem Ij.f1(F:Ij H s o kd):∀x∈[s],H x=aI:=λx m=>by rw[aH.mp m];exact F.s
theorem Ij.f2(F:Ij H s o kd):∀x∈[s,o],H x=aI:=λx m=>by
 rcases aA.mp m with e|m
 .rw[e];exact F.s
 .rw[aH.mp m];exact F.o
theorem EB.new{a:bp}{x:AO}(i:EB pg H s o kd ks p bk out h)(n:h a=aI):EB pg H s o kd ks p bk out (upd h a x):=
 ⟨by refine bF (lV<|l9 i.s n)▸?_;exact i.s,by refine bF (lV<|l9 i.o n)▸?_;exact i.o,by refine bF (lV<|l9 i.kd n)▸?_;exact i.kd,i.k.new n⟩
theorem EB.X1{p':Nat}{Ka:Int}(F:Ij H s o kd)(i:EB pg H s o kd ks p bk out h):EB pg H s o kd ks p' Ka out (upd h s<|SD pg p' ag ag Ka):=
 ⟨lT _ _ _,by rw[lV F.so.symm];exact i.o,by rw[lV F.sk.symm];exact i.kd,i.k.oY F.s⟩
theorem HU.Sb(q:HU pg s0 H Q)(r:mB pg s0 .bad)(k:lY [] H h):mC h (.tup [.nm 7]) Q:=iP λa n=>q.bad r a _ (k.new n)<|lT _ _ _
theorem PO(hs:h s=aq (SD pg p bd pd bk))(ho:bd=ag->pd=ag->h o=aq (OL out))(k:lY [] H h)(q:HU pg s0 H Q)(r1:bd=af->mB pg s0 .bad)(r2:bd=ag->pd=ag->∀r,mB pg (qu p out (v1==1) aI) r->mB pg s0 r)
  (nx:bd=ag->pd=ag->out.length<=400->v1≠1->N (AT pg at_ s o kd v5 (aq<|.int (v1:Nat)) v7 v8 v9 v10) h):(Eo).ev (AT pg at_ s o kd v5 (aq<|.int (v1:Nat)) v7 v8 v9 v10) h E N C Q:=by
 have R4:∀a,h a=aI->Q (.ref a) (upd h a<|.tup [.nm 9]):=λa n=>q.pd a _ (k.new n)<|lT _ _ _;cases bd with
 |true=>exact iL hs (lC<|iM (ak rfl)<|q.Sb (r1 rfl) k)
 |false=>
  refine iL hs<|lD<|iL hs ?_;cases pd with
  |true=>exact lC (lC<|iM (ak rfl)<|iP R4)
  |false=>
   let ho:=ho rfl rfl;refine lD<|iL ho<|iQ (λc=>lC<|iM (ak rfl)<|iP R4) λc=>lD ?_;let c:=pZ c;rw[cF]at c;have c:out.length<=400:=("Pd|OPF}lON{J0$#",c);refine iQ (λc1=>iL ho<|jt (is:=out.map λb=>((b.toNat:Nat):Int)) (by rw[cO];rfl)<|iM (λi m=>?_)<|iL hs<|iM ("")<|iL hs<|iM (ak rfl)<|iP λa ha=>?_) λc1=>nx rfl rfl c (by let c1:=pZ c1;exact("(R{;.-$S_`Qov$#",c1))
   .obtain⟨b,_,rfl⟩:=ef.mp m;let:=jm b;exact("D/217i0.+cx{m9M{hW$#",this)
   .have c1:=pN c1;obtain rfl:v1=1:=("$ye*)ec1hl1E$#",c1);exact q.told out _ (r2 rfl rfl _<|mB.fin c) a _ (.ref kd) (.int bk) (k.new ha) (by rw[lT,Kd];rfl)
theorem Sc{m n:Nat}{z:Int}(F:Ij H s o kd)(hz:z=(m:Nat))(i:EB pg H s o kd ks (8*(n+4)) bk out h)(hl:out.length<=400)(pl:pg.length<=100000)(hm:n+4+m<=pg.length)
  (nx:∀h',EB pg H s o kd ks (8*(n+4+m)) bk (out++(pg.drop<|n+4).take m) h'->N (AT pg at_ s o kd v5 v6 v7 (aq<|.int z) v9 v10) h'):(Ep).ev (AT pg at_ s o kd v5 v6 v7 (aq<|.int z) v9 v10) h E N C Q:=by
 subst hz;refine iL i.o<|iL i.s<|iM ("")<|iL i.s<|iM ("")<|iM ("*}]<YdUA2s.-9?,:$#",pl) ?_;let sl:mK pg (aq<|((8*(n+4):Nat):Int)/8) (aq<|((8*(n+4):Nat):Int)/8+(m:Nat))=(pg.drop<|n+4).take m:=Lc pg ("'jz.GC,xRE,S%2[nv]J0$$",rfl) (",jT2Vld<`fjGap0UOw7zDj^7%$",rfl) ("$|i`['Qt]%:o]i/>&#",hm);have sn:(mK pg (aq<|((8*(n+4):Nat):Int)/8)<|aq<|((8*(n+4):Nat):Int)/8+(m:Nat)).length<=100000:=gq (oq _ _ _) pl;refine iM ("*}]<YdUA2s.-9?,:$#",sn) (iP λd V6=>iL (i.new V6).o (iL (lT _ _ _)<|iM (by rw[cF,cF];exact("%~u*)N{r|gJ}pMCc}LC?#(T%#",hl,sn)) ?_));let j:=i.new (x:=.list ((mK pg (aq<|((8*(n+4):Nat):Int)/8)<|aq<|((8*(n+4):Nat):Int)/8+(m:Nat)).map λb=>.int (b.toNat:Nat))) V6;rw[sl]at j⊢;let o2:∀{h':AH},upd h' o (.list ((out.map λb=>iR (b.toNat:Nat))++((pg.drop<|n+4).take m).map λb=>iR (b.toNat:Nat))) o=aq (OL<|out++(pg.drop<|n+4).take m):=λ{h'}=>by rw[lT];unfold OL;rw[i6]
 let j2:EB pg H s o kd ks (8*(n+4)) bk (out++(pg.drop<|n+4).take m) _:=⟨by rw[lV F.so];exact j.s,o2,by rw[lV F.ok.symm];exact j.kd,j.k.oY F.o⟩;refine iL j2.s<|iM (q8 ("") (""))<|iL j2.s<|iM (ak rfl)<|nx _ ?_;let e:((8*(n+4):Nat):Int)+8*(m:Nat)=((8*(n+4+m):Nat):Int):=("*/[W#2KtbqD+LOy2Yv#J%#");rw[e];exact j2.X1 F
theorem Vu(F:Ij H s o kd)(i:EB pg H s o kd ks (p+3) bk out h)(hl:out.length<=400)(pl:pg.length<=100000)(hp:p+3<=8*pg.length)(hk:mE pg (p+1) 2=0)(qb:∀h',lY [] H h'->mB pg (qu p out ag aI) .bad->mC h' (.tup [.nm 7]) Q)
  (nx:∀h' v8 v9 p' out',EB pg H s o kd ks p' bk out' h'->(∀r,mB pg (qu p' out' (mE pg p 1==1) aI) r->mB pg (qu p out ag aI) r)->N (AT pg at_ s o kd v5 v6 v7 v8 v9 v10) h'):(Cr).ev (AT pg at_ s o kd v5 v6 v7 v8 v9 v10) h E N C Q:=by
 have ei:(((p+3:Nat):Int)+7)/8*8=((8*((p+3+7)/8):Nat):Int):=("wd^o>7V0)WNWU(]7w=;r>N2l^3x)v3i5s%$",rfl,rfl);refine iL i.s<|iM ("")<|iM (uj ("") (""))<|iL i.s<|iM (ak rfl) ?_;have j:EB pg H s o kd ks (8*((p+3+7)/8)) bk out (upd h s<|.sd (Ir 5 (.int ((((p+3:Nat):Int)+7)/8*8)) [(42,.bytes pg),(5,.int (p+3:Nat)),(7,.bool ag),(9,.bool ag),(24,.int bk)])):=by rw[ei];exact i.X1 F
 revert j;generalize upd h s _=h;intro j;clear i ei;generalize hn:(p+3+7)/8=n at j;refine lw rfl ("")<|sq (lH:=16) j.s ("") pl ("") λw1 p1 b1 H6 hw1 k6 s6 f6 t6=>?_
 refine lw rfl ("")<|sq (lH:=16) s6 ("") pl ("") λw2 p2 b2 H7 YQ k7 s7 f7 t7=>?_
 have fb:b2=af->pg.length<n+4:=λe=>jB λc=>by
  have e1:b1=ag:=by
   cases b1 with
   |false=>rfl
   |true=>have:=pY<|(t6 rfl).resolve_left cA;exact(j9 0xa27502108358020d121086002c42 ("$") c this).elim
  let a1:=(oo (f6 e1).2).2.1;let:=pY ((t7 e).resolve_left (by rw[e1];exact cA));exact("(dc#~A{XE%~?bLeV#XByi/>&#",c,a1,this)
 have ff:b2=ag->A4 (w1=mE pg (8*n) 16) (w2=mE pg (8*n+16) 16) (p2=8*(n+4)) (n+4<=pg.length):=λe=>by obtain⟨c,r2⟩:=f7 e;let r1:=(f6 c).2;obtain⟨y1,rfl,_⟩:=oo r1;obtain⟨y2,rfl,y3⟩:=oo r2;exact⟨y1,y2,(",uJsZ`rs{M~d+KG$#"),("'X9?m}2seE9OP0WD.OL%#",y3)⟩
 have o7:=(k6.trans k7) _ _ j.o F.ns;have d7:=(k6.trans k7) _ _ j.kd F.nk;have kk:=j.k.fresh (k6.trans k7) F.f1;clear f6 t6 f7 t7 k6 k7 s6 j;refine iM (ak rfl)<|iP λa0 rR=>iL (lT _ _ _) ?_;have s8:upd H7 a0 (.tup [.int (w1:Nat),.int (w2:Nat)]) s=aq (SD pg p2 b2 ag bk):=by refine bF (lV<|l9 s7 rR)▸?_;exact s7
 have o8:upd H7 a0 (.tup [.int (w1:Nat),.int (w2:Nat)]) o=aq (OL out):=by refine bF (lV<|l9 o7 rR)▸?_;exact o7
 have d8:upd H7 a0 (.tup [.int (w1:Nat),.int (w2:Nat)]) kd=aq (.list ks):=by refine bF (lV<|l9 d7 rR)▸?_;exact d7
 have k8:lY [] H (upd H7 a0<|.tup [.int (w1:Nat),.int (w2:Nat)]):=kk.new rR;revert s8 o8 d8 k8;generalize upd H7 a0 (.tup [.int (w1:Nat),.int (w2:Nat)])=h;intro s8 o8 d8 k8;clear rR s7 o7 d7 kk;let bad:=qb h k8;refine iL s8<|iQ (λc=>lC<|iM (ak rfl)<|bad<|mB.PC hl hp hk hn.symm<|fb c) λc=>?_;cases b2 with
 |true=>exact Nu c
 |false=>
  obtain⟨y1,y2,rfl,y3⟩:=ff rfl;clear fb ff c;refine iQ (λc=>lC<|iM (ak rfl)<|bad<|mB.Vi hl hp hk hn.symm y3 ?_) λc=>?_
  .have c:(!decide (((w1:Nat):Int)+(w2:Nat)=65535))=af:=c;rw[Bool.not_eq_true',decide_eq_false_iff_not]at c;refine y1▸?_;refine y2▸?_;exact("fQSd$.bUt)o.9/>|?$.}>a%#",c)
  have c:(!decide (((w1:Nat):Int)+(w2:Nat)=65535))=ag:=c;rw[Bool.not_eq_false',decide_eq_true_iff]at c;have c:w1+mE pg (8*n+16) 16=65535:=by refine y2▸?_;exact(":%_9r&HHRkZOG>|A6</mN%#",c)
  refine iL s8<|iM ("")<|iM ("*}]<YdUA2s.-9?,:$#",pl)<|iQ (λc'=>lC<|iM (ak rfl)<|bad<|mB.Vj hl hp hk hn.symm y3 y1 c ?_) λc'=>lD ?_
  .have c':=pN c';exact("=zpy-m`RC&$9E_49kbl.q{^6Gf&$",c',rfl)
  .have c':=pZ c';have g:n+4+w1<=pg.length:=("KRU#x<LRE;(FX>y.i<R0r`VJ[&$",c',rfl);exact Sc F rfl ⟨s8,o8,d8,k8⟩ hl pl g λh' j=>nx h' _ _ _ _ j λr=>mB.XX hl hp hk hn.symm y3 y1 c g
theorem Vv{kind:Nat}(F:Ij H s o kd)(i:EB pg H s o kd ks (p+3) bk out h)(hl:out.length<=400)(pl:pg.length<=100000)(hp:p+3<=8*pg.length)(hk:mE pg (p+1) 2=kind)(X3:kind=1∨kind=2)
  (nx:∀h' v10 p' bd pd Ka out',h' s=aq (SD pg p' bd pd Ka)->(bd=ag->pd=ag->EB pg H s o kd ks p' Ka out' h')->lY [] H h'->(bd=af->mB pg (qu p out ag aI) .bad)->(bd=ag->pd=ag->∀r,mB pg (qu p' out' (mE pg p 1==1) aI) r->mB pg (qu p out ag aI) r)->N (AT pg at_ s o kd v5 v6 (aq<|.int (kind:Nat)) v8 v9 v10) h'):
  (Cs).ev (AT pg at_ s o kd v5 v6 (aq<|.int (kind:Nat)) v8 v9 v10) h E N C Q:=by
 let body:∀{h:AH}{p1:Nat}{bv:V}{bks:Vf},EB pg H s o kd ks p1 bk out h->tF h [s,o] bv bks->(∀r,mB pg (qu p1 out (mE pg p 1==1)<|aq bks.bk) r->mB pg (qu p out ag aI) r)->mH 4 (.ref 311) [.ref s,.ref o,bv] h (λ_ h'=>N (AT pg at_ s o kd v5 v6 (aq<|.int (kind:Nat)) v8 v9<|aq bv) h') E:=λ{h p1 bv bks} j b e=>
  R3 (last:=mE pg p 1==1) j.s j.o b pl (gq hl ("")) (λp6 aa1 l6 e6 H6 X4 k6 s6 o6=>nx H6 _ p6 ag ag X4 aa1 s6 (λ_ _=>⟨s6,o6,k6 _ _ j.kd F.nk2,j.k.fresh k6 F.f2⟩) (j.k.fresh k6 F.f2) (λe=>by cases e) λ_ _ r q=>e r<|e6 r q)
   (λe6 H6 p6 f6 X4 k6 s6=>nx H6 _ p6 af f6 X4 [] s6 (λe=>by cases e) (j.k.fresh k6 F.f2) (λ_=>e _ e6) λe=>by cases e) λH6 p6 X4 k6 s6=>nx H6 _ p6 ag af X4 [] s6 (λ_ e=>by cases e) (j.k.fresh k6 F.f2) (λe=>by cases e) λ_ e=>by cases e
 refine iQ (λc2=>?_) λc2=>?_
 .have c2:=pN c2;obtain rfl:kind=2:=("$ye*,`R5CO^6$#",c2);refine lw rfl ("")<|PL i.s pl (ms:=[s,o]) ⟨λx m e=>?_,λe v H5 p' f bk5 k5 s5=>?_,λe v H5 p' bk5 k5 s5=>?_,λp' a b e t H5 k5 s5 bks=>?_⟩
  .rcases aA.mp m with e'|m
   .let e:=e'▸e;have e:=i.s▸e;cases e
   .let e:=(aH.mp m)▸e;have e:=i.o▸e;cases e
  .exact iL s5 (lD<|lD<|nx H5 _ p' af f bk5 [] s5 (λe=>by cases e) (i.k.fresh k5 F.f1) (λ_=>mB.Vh hl hp hk e) λe=>by cases e)
  .exact iL s5 (lC<|iL s5<|lD<|lD<|nx H5 _ p' ag af bk5 [] s5 (λ_ e=>by cases e) (i.k.fresh k5 F.f1) (λe=>by cases e) λ_ e=>by cases e)
  .exact iL s5<|lC<|iL s5<|lC<|lC<|lw rfl ("")<|body ⟨s5,k5 _ _ i.o F.ns,k5 _ _ i.kd F.nk,i.k.fresh k5 F.f1⟩ bks λr=>mB.XW hl hp hk e
 .have c2:=pZ c2;obtain rfl:kind=1:=("gNj92;i,46.h[-Nb_8V:#:bG$#",X3,c2);exact iL i.s<|lC<|iL i.s<|lC<|lC<|lw rfl ("")<|body i .QU λr=>mB.XV hl hp hk
theorem Vw(F:Ij H s o kd)(i:EB pg H s o kd ks p bk out h)(hl:out.length<=400)(pl:pg.length<=100000)(kl:ks.length<=100)(q:HU pg s0 H Q)(e:∀r,mB pg (qu p out ag aI) r->mB pg s0 r)
  (nx:∀h' v6 v7 v8 v9 v10 YR p' Ka out',EB pg H s o kd YR p' Ka out' h'->YR.length<=ks.length+1->out'.length<=400->(∀r,mB pg (qu p' out' ag aI) r->mB pg s0 r)->N (AT pg at_ s o kd v5 v6 v7 v8 v9 v10) h'):
  (Ct).ev (AT pg at_ s o kd v5 v6 v7 v8 v9 v10) h E N C Q:=by
 refine lw rfl ("")<|sq (lH:=1) i.s ("") pl ("") λv1 p1 b1 H1 F1 k1 s1 f1 t1=>?_
 refine lw rfl ("")<|sq (lH:=2) s1 ("") pl ("") λv2 p2 b2 H2 F2 k2 s2 f2 t2=>?_
 have fb:b2=af->8*pg.length<p+3:=λe=>jB λc=>by
  have e1:b1=ag:=by
   cases b1 with
   |false=>rfl
   |true=>let:=pY<|(t1 rfl).resolve_left cA;exact(j9 0x5341210c010688c8430041a2c42 ("$") c this).elim
  let a1:=(oo (f1 e1).2).2.1;let:=pY ((t2 e).resolve_left (by rw[e1];exact cA));exact("+K^vPR:wJYEHL8T{;>,q;O&#",c,a1,this)
 have ff:b2=ag->A4 (v1=mE pg p 1) (v2=mE pg (p+1) 2) (p2=p+3) (p+3<=8*pg.length):=λe=>by obtain⟨c,r2⟩:=f2 e;let r1:=(f1 c).2;obtain⟨y1,rfl,_⟩:=oo r1;obtain⟨y2,rfl,y3⟩:=oo r2;exact⟨y1,y2,rfl,y3⟩
 have o2:=(k1.trans k2) _ _ i.o F.ns;have d2:=(k1.trans k2) _ _ i.kd F.nk;have kk:=i.k.fresh (k1.trans k2) F.f1;clear f1 f2 t1 t2 k1 k2 s1 i;refine iM (ak rfl)<|iP λa0 rR=>iL (lT _ _ _) ?_;let d3:upd H2 a0 (.tup [.int (v1:Nat),.int (v2:Nat)]) kd=aq (.list ks):=by refine bF (lV<|l9 d2 rR)▸?_;exact d2
 refine iL d3<|iL d3<|iM ("d1KRF8FgJ~gJm~$#",kl) ?_;have s4:upd (upd H2 a0<|.tup [.int (v1:Nat),.int (v2:Nat)]) kd (.list (ks++[.int (v2:Nat)])) s=aq (SD pg p2 b2 ag bk):=by rw[lV F.sk];refine bF (lV<|l9 s2 rR)▸?_;exact s2
 let o4:upd (upd H2 a0<|.tup [.int (v1:Nat),.int (v2:Nat)]) kd (.list (ks++[.int (v2:Nat)])) o=aq (OL out):=by rw[lV F.ok];refine bF (lV<|l9 o2 rR)▸?_;exact o2
 let d4:=lT (upd H2 a0<|.tup [.int (v1:Nat),.int (v2:Nat)]) kd<|.list (ks++[.int (v2:Nat)]);have k4:lY [] H (upd (upd H2 a0<|.tup [.int (v1:Nat),.int (v2:Nat)]) kd<|.list (ks++[.int (v2:Nat)])):=(kk.new rR).oY F.kd;revert s4 o4 d4 k4;generalize upd (upd H2 a0<|.tup [.int (v1:Nat),.int (v2:Nat)]) kd (.list (ks++[.int (v2:Nat)]))=h4;intro s4 o4 d4 k4;clear d3 rR s2 o2 d2 kk;have kl:(ks++[iR (v2:Nat)]).length<=ks.length+1:=by rw[cz];exact dg _
 revert d4 kl;generalize ks++[iR (v2:Nat)]=ks2;intro d4 kl;refine iL s4<|iQ (λc=>lC<|iM (ak rfl)<|q.Sb (e _<|mB.short hl<|fb c) k4) λc=>?_;cases b2 with
 |true=>exact Nu c
 |false=>
  obtain⟨y1,y2,rfl,y3⟩:=ff rfl;clear ff fb c;refine iQ (λc3=>lC<|iM (ak rfl)<|q.Sb (e _<|mB.XU hl y3 ?_) k4) λc3=>lD ?_
  .let c3:=pN c3;exact("qo/TxTb-JIhqWy?g%#",y2,c3)
  let c3:=pZ c3;let i4:EB pg H s o kd ks2 (p+3) bk out h4:=⟨s4,o4,d4,k4⟩;subst y1;refine iQ (λc0=>?_) λc0=>?_
  .let c0:=pN c0;refine Vu F i4 hl pl y3 ("qo/TxG}EQCQQ$gL5%#",y2,c0) (λh' k r=>q.Sb (e _ r) k) λh' v8 v9 p' out' j r=>PO j.s (λ_ _=>j.o) j.k q (λe=>by exact xL e) (λ_ _ r' x=>e _<|r r' x) λ_ _ l n=>nx h' _ _ _ _ _ ks2 p' bk out' j kl l λr' x=>e _<|r r' ?_;refine bF (show(mE pg p 1==1)=ag from beq_eq_false_iff_ne.mpr n)▸?_;exact x
  .let c0:=pZ c0;refine Vv F i4 hl pl y3 y2.symm (by let F2:v2<4:=F2;exact("$)6/T9(;=N)&b~GwN.'<[8/}B;=4#Q$#",(by assumption),c3,c0)) λh' v10 p' bd pd Ka out' a b k r1 r2=>PO a (λc d=>(b c d).o) k q (λc=>e _<|r1 c) (λc d r' x=>e _<|r2 c d r' x) λc d l n=>nx h' _ _ _ _ _ ks2 p' Ka out' (b c d) kl l λr' x=>e _<|r2 c d r' ?_;refine bF (show(mE pg p 1==1)=ag from beq_eq_false_iff_ne.mpr n)▸?_;exact x
theorem Sd(pl:pg.length<=100000)(CY:at_<=100000)(q:HU pg (qu (8*at_) [] ag aI) H Q):mH 5 (.ref 325) [.bytes pg,.int at_] H Q E:=by
 refine nS (n:=4) JJ sJ .nil rfl ?_;refine iP λs hs=>iM (q8 ("") (""))<|iL (lT _ _ _)<|iM (ak rfl)<|iP λo ho=>iM (ak rfl)<|iP λkd PP=>iM (ak rfl)<|iP λt ht=>iL (lT _ _ _) ?_;let s0:=lT (upd H s<|.sd []) s<|SD pg (8*at_) ag ag 0;let so:s≠o:=l9 (lT _ _ _) ho;let sk:s≠kd:=l9 (by rw[lV so];exact lT _ _ _) PP;let ok:o≠kd:=l9 (lT _ _ _) PP;rw[lV so.symm,lV so.symm]at ho;let PP:=(lV ok.symm)▸PP;let PP:=(lV sk.symm)▸PP;let PP:=(lV sk.symm)▸PP;let i:=(EB.new (pg:=pg) (H:=H) (s:=s) (o:=o) (kd:=kd) (ks:=[]) (p:=8*at_) (bk:=0) (out:=[]) (x:=.tup [.ref s,.ref o,.ref kd]) ⟨by rw[lV sk];rw[lV so];exact s0,by rw[lV ok];exact lT _ _ _,lT _ _ _,((((lY.refl.oY hs).oY hs).oY ho).oY PP)⟩ ht);refine iM ("") (lq [Option V,Option V,Option V,Option V,Option V,Option V,List V,Nat,Int,List UInt8] (λ_ x5 x6 x7 x8 x9 x10 _ _ _ _=>AT pg at_ s o kd x5 x6 x7 x8 x9 x10)
  (λi _ _ _ _ _ _ ks p bk out h=>A4 (EB pg H s o kd ks p bk out h) (ks.length<=i) (out.length<=400) (∀r,mB pg (qu p out ag aI) r->mB pg (qu (8*at_) [] ag aI) r)) ⟨aI,aI,aI,aI,aI,aI,[],_,_,[],⟨i,dg _,by decide,λ_ h=>h⟩,rfl⟩ ?_ ?_)
 .have F:Ij H s o kd:=⟨so,sk,ok,hs,ho,PP⟩;clear ht i s0 so sk ok hs ho PP;rintro i h K hi nx x5 x6 x7 x8 x9 x10 ks p bk out ⟨j,kl,l,e⟩;let hi:i<60:=hi;exact Vw F j l pl ("(glQ:0PWR$.Z5Hw%#",kl,hi) q e λh' v6 v7 v8 v9 v10 YR p' Ka out' j' kl' l' e'=>nx h' _ v6 v7 v8 v9 v10 YR p' Ka out' ⟨j',("%%yemG%&2rSrf5r4&#",kl,kl'),l',e'⟩
 .intro h x5 x6 x7 x8 x9 x10 ks p bk out jj;let j:=jj.1;exact iM (ak rfl)<|iP λa n=>q.pd a _ (j.k.new n)<|lT _ _ _
end
def sV(l:List Nat):Prop:=∀x∈l,x<2
theorem sV.app{a b:List Nat}(h:sV a)(h':sV b):sV (a++b):=λx m=>(aE.mp m).elim (h x) (h' x)
section
variable{H:AH}{Q:V->AH->Prop}{E:AH->Prop}
theorem sr{b:bp}{lL:List Nat}{number z:Int}{m:Nat}(hz:z=(m:Nat))(hb:H b=aq (NL lL))(h2:sV lL)(hm:m<=16)(hn:lL.length<=1000000)
  (h:∀H' mI,mI.length=lL.length+m->sV mI->lY [b] H H'->H' b=aq (NL mI)->Q .none H'):mH 1 (.ref 339) [.ref b,.int number,.int z] H Q E:=by
 subst hz;refine nS (n:=0) M0 JN .nil rfl ?_;refine iM ("F#9?>_AB6/HF{q?G<Md17Eg~it3Y$#",hm)<|lq [Option V,List Nat] (λ_ x _=>[aq (.ref b),aq<|.int number,aq<|.int m,x,aI]) (λi _ mI h=>A5 (i<=m) (mI.length=lL.length+i) (sV mI) (lY [b] H h)<|h b=aq (NL mI)) ⟨aI,lL,⟨aR _,rfl,h2,.refl,hb⟩,rfl⟩ ?_ ?_
 .rintro i h K hi hK x mI ⟨LS,q1,q2,q3,q4⟩;have hi:i<m:=("'U^(Jg~X{HYyfR3+W&#",hi,rfl);have pb:((0:Int)+i).toNat<64:=("6,PH4Btd'0evHGE?kXItM&#",hm,hi,rfl);refine iL q4 (iM ⟨("TIrA,NV;Q:<3VK?xiwQ5c9?{k%#",hm,hi),by decide⟩<|iM (HD pb)<|iM ("")<|iL q4<|iM (by rw[cF];exact("G.1ntCSgZ%Ln_k]$JGHuH);2|O[='#",hm,hn,q1,hi)) ?_);generalize number/2^((0:Int)+i).toNat=w;have w2:w % 2=((w % 2).toNat:Nat):=("Ix2O<8--#+&5,Yp`&[[$&",by exact jl rfl rfl rfl,("%"));refine hK _ _ (mI++[(w % 2).toNat]) ⟨("$D,L=8w3-j]%#",hi),?_,q2.app λx m=>?_,q3.upd<|.head _,?_⟩
  .rw[cz];show _+1=_;exact id<|kJ 0xa447a41220c218480321008600423 ("$") q1
  .rw[aH.mp m];exact("VvS<XZ:eGwugHH2O$&",by exact jl rfl rfl rfl,("%"))
  .rw[lT,w2];exact congrArg aq<|oZ mI [(w % 2).toNat]
 .rintro h' x mI ⟨LS,q1,q2,q3,q4⟩;have e:((m:Int)-0).toNat=m:=("6jDaobybc)q<,~P%#",rfl);rw[e]at q1;exact h h' mI q1 q2 q3 q4
structure Ld(sg:List Nat)(lH top:Nat)(lU:List Nat):Prop where
 l:lU.length=lH
 b:∀x∈lU,x<=top
 s:∀x∈sg,0<lU.getD x 0
theorem FK{lU:List Nat}{x v:Nat}{y:Nat}(hv:0<v)(h:0<lU.getD y 0∨(y=x/\x<lU.length)):0<(lU.set x v).getD y 0:=by
 refine bF bq▸?_;refine bF j8▸?_;by_cases e:x=y
 .subst e;rw[mZ rfl];by_cases l:x<lU.length
  .rw[mZ l];exact hv
  .rw[mT l];rcases h with h|h
   .rw[bq,i8 ("zl)*M|~1N%#",l)]at h;exact h
   .exact("]7bHNMlwIf,#|YnQ&#",l,h)
 .rw[mT e];rcases h with h|h
  .have h:=bq▸h;exact h
  .exact(e h.1.symm).elim
theorem TA{lU:List Nat}{x v top:Nat}(hv:v<=top)(h:∀y∈lU,y<=top):∀y∈lU.set x v,y<=top:=λy m=>by
 rcases jo m with c|c
 .exact h y c
 .rw[c];exact hv
theorem HV(n:Nat):oy n [0]=iT n 0:=by
 induction n with
 |zero=>rfl
 |succ n ih=>show[0]++oy n [0]=_;rw[ih];rw[dO];rfl
theorem PS{a:bp}{sg:List Nat}{lH:Nat}{z:Int}(hz:z=(lH:Nat))(ha:H a=aq (NL sg))(hs:∀x∈sg,x<lH)(hm:lH<=1000)(hl:sg.length<=10)
  (h:∀r H' lU,H r=aI->lY [] H H'->H' r=aq (NL lU)->Ld sg lH 10 lU->Q (.ref r) H'):mH 1 (.ref 358) [.ref a,.int z] H Q E:=by
 subst hz;refine nS (n:=0) Hs Fk .nil rfl ?_;have nn:((lH:Nat):Int).toNat=lH:=("s4RlOb-;:~iss%#",rfl);refine iM (ak rfl)<|iP λa0 rR=>iL (lT _ _ _)<|iM ⟨⟨("(ZvIuSc<&0zh4^wan$#"),("RMWe[f=^4AV}IxocFx9_r$#",hm)⟩,?_⟩<|iP λr hr=>?_
 .show 1*_<=_;rw[nn];exact("$Ii#UU=j3_gLG/HDf$#",hm)
 have ra0:r≠a0:=λe=>by rw[e,lT]at hr;cases hr
 have V7:H r=aI:=by rw[lV ra0]at hr;exact hr
 have ar:a≠r:=l9 ha V7;have k0:=(ly (ms:=[]) (H:=H)).new (o:=.list [.int 0]) rR;have wR:=k0 _ _ ha iN;refine iL (o:=NL sg) (by rw[lV ar];exact wR) (xR.tl [Option V,Option V,List Nat] (λ_ x3 x4 _=>[aq (.ref a),aq<|.int lH,aq<|.ref r,x3,x4,aI,aI,aI,aI]) (λi _ _ lU h=>A3 (lY [] H h) (h r=aq (NL lU))<|Ld (sg.take i) lH 10 lU) ⟨aI,aI,iT lH 0,⟨k0.oY V7,?_,⟨jv,λx m=>(by rw[kf m];decide),λx m=>by cases m⟩⟩,rfl⟩ ?_ ?_ ?_)
 .rw[lT,nn];show aq (jr<|qa lH<|[0].map λ(n:Nat)=>iR n)=_;rw[rP,HV];rfl
 .rintro i h x3 x4 lU ⟨k,q1,q2⟩;exact k _ _ ha iN
 .rintro i h x tt K hx HW hK x3 x4 lU ⟨k,q1,q2⟩;obtain⟨lt,rfl⟩:=qC hx;have rt:=l9 q1 HW;have at_:=l9 (k _ _ ha iN) HW;have hx:sg.getD i 0∈sg:=by refine bF bq▸?_;rw[bU lt];exact i7 _
  have xm:=hs _ hx;refine iL (lT _ _ _) (iL (o:=NL sg) (by rw[lV at_];exact k _ _ ha iN)<|iL (o:=NL lU) (by rw[lV rt];exact q1)<|iM ?_ ?_)
  .rw[cF,q2.l];exact("~A:lWnxhpn_t0Ai%#",xm)
  .rw[cF];have ve:∃v:Nat,(if(if((sg.length:Nat):Int)-1>1 then((sg.length:Nat):Int)-1 else 1)<(i:Int)+1 then(if((sg.length:Nat):Int)-1>1 then((sg.length:Nat):Int)-1 else 1)else(i:Int)+1)=(v:Nat)/\0<v/\v<=10:=by
    refine⟨(if(if((sg.length:Nat):Int)-1>1 then((sg.length:Nat):Int)-1 else 1)<(i:Int)+1 then(if((sg.length:Nat):Int)-1>1 then((sg.length:Nat):Int)-1 else 1)else(i:Int)+1).toNat,?_,?_,?_⟩<;>(repeat' split)<;>omega
   obtain⟨v,ve,v0,v10⟩:=ve;rw[ve];refine bF (show((sg.getD i 0:Nat):Int).toNat=sg.getD i 0 by exact("s4RlOb-;:~iss%#",rfl))▸?_;refine hK _ _ _ (lU.set (sg.getD i 0) v) ⟨(k.new HW).oY V7,?_,⟨by rw[jF];exact q2.l,TA v10 q2.b,λx m=>?_⟩⟩
   .rw[lT,CL]
   .have m:=(uq lt)▸m;rcases aE.mp m with m|m
    .exact FK v0<|.inl (q2.s x m)
    .exact FK v0 (.inr ⟨aH.mp m,by rw[q2.l];exact xm⟩)
 .rintro h' x3 x4 lU ⟨k,q1,q2⟩;rw[cF,js]at q2;exact h r h' lU V7 k q1 q2
end
section
variable{H:AH}{Q:V->AH->Prop}{E:AH->Prop}
theorem Se{k:Nat}:∃v:Nat,qA [iR 3,.int 1,.int 2] ((k:Int) % 3)=aq (.int (v:Nat))/\0<v/\v<=10:=by
 let h:k % 3=0∨k % 3=1∨k % 3=2:=("(HwKP4l6ble|+knde`D4N9HHb$q6:lEB.&#",by exact jN rfl rfl rfl);rcases h with h|h|h
 .exact⟨3,by rw[show(k:Int) % 3=0 by exact("'AB#1M9{xR,F(J+[SI5O|zDZgb]ne'p4~|dM&%",h,by exact jl rfl rfl rfl,by exact jN rfl rfl rfl)];rfl,by decide,by decide⟩
 .exact⟨1,by rw[show(k:Int) % 3=1 by exact("&)rB-<BAn>O:u9a`&v8^&,k2*UHn4;unz=qeW&%",h,by exact jl rfl rfl rfl,by exact jN rfl rfl rfl)];rfl,by decide,by decide⟩
 .exact⟨2,by rw[show(k:Int) % 3=2 by exact("&83Tv/=268H7w[0PS}#H5{^MHdS0rsEm6&nA(&%",h,by exact jl rfl rfl rfl,by exact jN rfl rfl rfl)];rfl,by decide,by decide⟩
theorem HX{a c:bp}{sg cs:List Nat}{lH:Nat}{z way:Int}(hz:z=(lH:Nat))(ha:H a=aq (NL sg))(hc:H c=aq (NL cs))(hs:∀x∈sg,x<lH)(hm:lH<=1000)(hl:sg.length<=10)(VX:cs.length<=1000)
  (h:∀r H' lU,H r=aI->lY [] H H'->H' r=aq (NL lU)->Ld sg lH 10 lU->Q (.ref r) H'):mH 2 (.ref 365) [.ref a,.int z,.ref c,.int way] H Q E:=by
 refine nS (n:=1) Hu Fl .nil rfl ?_;refine lw rfl ("")<|PS hz ha hs hm hl λr H1 TB hr k1 q1 o1=>?_;refine iQ (λcw=>?_) λcw=>h r H1 TB hr k1 q1 o1;let ar:a≠r:=l9 ha hr;let cr:c≠r:=l9 hc hr;have wR:=k1 _ _ ha iN;let TC:=k1 _ _ hc iN;refine iL wR<|xR.tl [Option V,Option V,Option V,List Nat] (λ_ x5 x6 x7 _=>[aq (.ref a),aq<|.int z,aq<|.ref c,aq<|.int way,aq<|.ref r,x5,x6,x7,aI,aI,aI]) (λi _ _ _ lU h=>A3 (lY [] H h) (h r=aq (NL lU))<|Ld sg lH 10 lU) ⟨aI,aI,aI,TB,⟨k1,q1,o1⟩,rfl⟩ ?_ ?_ ?_
 .intro i h x3 x4 x7 lU jj;let k:=jj.1;let q1:=jj.2;let q2:=jj.3;exact k _ _ ha iN
 .rintro i h x tt K hx HW hK x3 x4 x7 lU ⟨k,q1,q2⟩;obtain⟨lt,rfl⟩:=qC hx;have rt:=l9 q1 HW;let hx:sg.getD i 0∈sg:=by rw[bq,bU lt];exact i7 _
  let xm:=hs _ hx;let kt:=k.new (o:=.tup [.int i,.int (sg.getD i 0:Nat)]) HW;let qt:upd h tt (.tup [.int i,.int (sg.getD i 0:Nat)]) r=aq (NL lU):=by rw[lV rt];exact q1
  refine iL (lT _ _ _) ?_;revert kt qt;generalize upd h tt (.tup [.int i,.int (sg.getD i 0:Nat)])=h2;intro kt qt;refine iM (ak rfl)<|iP λe he=>?_;let ce:=l9 (kt _ _ hc iN) he;let re:=l9 qt he;have k3:=kt.new (o:=.list []) he;let q3:upd h2 e (.list []) r=aq (NL lU):=by rw[lV re];exact qt
  let c3:=k3 _ _ hc iN;have fin:∀cell:Nat,(CC).ev [aq (.ref a),aq<|.int z,aq<|.ref c,aq<|.int way,aq<|.ref r,aq<|.int i,aq<|.int (sg.getD i 0:Nat),aq<|.int (cell:Nat),aI,aI,aI] (upd h2 e<|.list []) E K K Q:=λcell=>by
   have last:∀{h:AH}{w:Int}(v:Nat),w=(v:Nat)->lY [] H h->h r=aq (NL lU)->0<v->v<=10->Og (.ref r) (.int (sg.getD i 0:Nat)) (λh=>K [aq (.ref a),aq<|.int z,aq<|.ref c,aq<|.int way,aq<|.ref r,aq<|.int i,aq<|.int (sg.getD i 0:Nat),aq<|.int (cell:Nat),aI,aI,aI] h) (.int w) h:=λ{h w} v hw kk qq v0 v10=>by
    subst hw;refine iL qq<|iM ?_ ?_
    .rw[cF,q2.l];exact("~A:lWnxhpn_t0Ai%#",xm)
    .rw[show((sg.getD i 0:Nat):Int).toNat=sg.getD i 0 by exact("s4RlOb-;:~iss%#",rfl)];refine hK _ _ _ _ (lU.set (sg.getD i 0) v) ⟨kk.oY hr,by rw[lT,CL],⟨by rw[jF];exact q2.l,TA v10 q2.b,λx m=>FK v0<|.inl (q2.s x m)⟩⟩
   refine iQ (λ_=>iM (ak rfl)<|iP λd hd=>iM ("")<|iL (lT _ _ _) ?_) λ_=>iQ (λ_=>iM ("")<|iM ("") ?_) λ_=>last 3 rfl k3 q3 ("") ("")
   .refine gu λP9 mG=>?_;obtain⟨v,hv,v0,v10⟩:=Se (k:=cell);refine mG ?_;exact iS hv (last v rfl (k3.new hd) (by rw[lV (l9 q3 hd)];exact q3) v0 v10)
   .exact last (1+(cell/3+i) % 4) rfl k3 q3 ("yoDJ=1b$#") ("bt/,#^4m&;XC2%'#",by exact jN rfl rfl rfl)
  refine iL c3<|iL (lT _ _ _)<|iM (.inr rfl)<|iQ (λc0=>iL c3 ?_) λc0=>fin 0;have c0:cs≠[]:=λe=>by subst e;exact xL c0
  have cl:=jc.mpr c0;have gi:qA (cs.map λ(n:Nat)=>iR n) ((i:Int) % ((cs.map λ(n:Nat)=>iR n).length:Nat))=aq (.int (cs.getD (i % cs.length) 0:Nat)):=by rw[cF,<-ki];exact pE<|aO _ cl
  exact iM (by rw[cF];exact("Nulqr|P0[$#",cl))<|iL c3<|iS gi<|fin _
 .intro h' x3 x4 x7 lU jj;let k:=jj.1;let q1:=jj.2;let q2:=jj.3;exact h r h' lU hr k q1 q2
end
abbrev T3:=bp×Int×Int×Nat
def sL(ts:List T3):List V:=ts.map λt=>.ref t.1
def X5(H:AH)(ts:List T3):Prop:=∀t∈ts,H t.1=aq (.tup [.int t.2.1,.int t.2.2.1,.int (t.2.2.2:Nat)])/\t.2.2.2<=7
section
variable{H:AH}{Q:V->AH->Prop}{E:AH->Prop}
theorem Sf{a:bp}{lU:List Nat}(ha:H a=aq (NL lU))(hl:lU.length<=1000)
  (h:∀r H' ts,H r=aI->lY [] H H'->H' r=aq (.list (sL ts))->X5 H' ts->ts.length<=lU.length->Q (.ref r) H'):mH 1 (.ref 351) [.ref a] H Q E:=by
 refine nS (n:=0) AR tB .nil rfl ?_;refine iM (ak rfl)<|iP λf hf=>iM (ak rfl)<|iP λt0 NH=>iL (lT _ _ _) ?_;let ft:=l9 (lT H f<|.list []) NH;refine F0.tl [Option V,Nat,List T3] (λ_ x3 at_ _=>[aq (.ref a),aq<|.ref f,aq<|.int (at_:Nat),x3,aI,aI]) (λk _ at_ ts h=>A5 (at_+k=lU.length) (ts.length<=at_) (lY [] H h) (h f=aq (.list (sL ts)))<|X5 h ts) lU.length ⟨aI,0,[],⟨iq _,dg _,((lY.refl.new hf).new NH),by rw[lV ft];exact lT _ _ _,λ_ m=>by cases m⟩,rfl⟩ ?_;rintro k h0 K nx x3 at_ ts ⟨q1,q2,q3,q4,q5⟩;let rR:=q3 _ _ ha iN;refine iL rR ⟨λc=>?_,λc=>h f h0 ts hf q3 q4 q5 ("$2L%]Da#Ut`JB0_'#",q1,q2)⟩;let c:=pN c;rw[cF]at c;refine F0.tl [Nat] (λ_ run=>[aq (.ref a),aq<|.ref f,aq<|.int (at_:Nat),aq<|.int (run:Nat),aI,aI]) (λj run h=>A3 (h=h0) (0<run)<|at_+run+j=lU.length) (lU.length-at_-1) ⟨1,⟨rfl,by decide,("{QM0d~?p+*|'1u)So1iqSL7_Ji{K3Ck'#",c,("%"),rfl)⟩,rfl⟩ ?_;rintro j h1 K2 nx2 run ⟨rfl,r0,r1⟩
 have g0:qA (lU.map λ(n:Nat)=>iR n) (at_:Nat)=aq (.int (lU.getD at_ 0:Nat)):=pE ("&nIed%El}1%#",c);have fin:∀(run':Nat)(x y:Int)(z:Nat)(w:Int),w=(z:Nat)->z<=7->0<run'->run'<=run->mh ([iR x,.int y,.int w].length<=1000) (mC h1 (.tup [.int x,.int y,.int w]) λv h=>Oy f (λ_ h=>
   (qX).ev [aq (.ref a),aq<|.ref f,aq<|.int (at_:Nat),aq<|.int (run':Nat),aI,aI] h E K K Q) [v] h):=λrun' x y z w hw hz h0 Z5=>by
  subst hw;refine iM (ak rfl)<|iP λtt HW=>?_;let ftt:=l9 q4 HW;refine iL (o:=.list (sL ts)) (by rw[lV ftt];exact q4)<|iM ?_<|nx (k-run') _ ("2W7y6iKMuAOa,_Rcxn2^AN-Wh`(#",q1,c,h0,rfl) _ (at_+run') (ts++[(tt,x,y,z)]) ⟨("$uO33:kPpWf?c(F,gK8JHp/<U>}'R/TOw`5BSn*#",q1,r1,Z5,rfl),?_,(q3.new HW).oY hf,?_,?_⟩
  .unfold sL;rw[cF];exact("%2IP?FPBUSHCcV'8|,s]G3|?Rv(#",hl,q2,r1)
  .rw[cz];show _+1<=_;exact id<|kJ 0x5488043090060200221000043 ("$") q2 h0
  .rw[lT];unfold sL;rw[i6];rfl
  .intro t m;rcases aE.mp m with m|m
   .let e1:=(q5 t m).1;let e2:=(q5 t m).2;let n1:t.1≠f:=λe=>by rw[e,q4]at e1;cases e1
    let n2:t.1≠tt:=l9 e1 HW;rw[lV n1];rw[lV n2];exact⟨e1,e2⟩
   .rw[aH.mp m];exact⟨by rw[lV ftt.symm];exact lT _ _ _,hz⟩
 have stop:(uA).ev [aq (.ref a),aq<|.ref f,aq<|.int (at_:Nat),aq<|.int (run:Nat),aI,aI] h1 E K K Q:=by
  have Lf:(uy).ev [aq (.ref a),aq<|.ref f,aq<|.int (at_:Nat),aq<|.int (run:Nat),aI,aI] h1 E (λl h=>(qX).ev l h E K K Q) K Q:=by
   have last:(vO).ev [aq (.ref a),aq<|.ref f,aq<|.int (at_:Nat),aq<|.int (run:Nat),aI,aI] h1 E (λl h=>(qX).ev l h E K K Q) K Q:=
    iL q4 (iL rR<|iS g0<|fin 1 _ _ 0 _ rfl ("") ("") r0)
   refine iQ (λc1=>iL rR<|iS g0<|iL rR<|iS (v:=.int (lU.getD (at_-1) 0:Nat)) ?_<|iQ (λ_=>iQ (λc3=>lC<|iL q4 ?_) λ_=>lD last) λ_=>lD last) λ_=>lD last
   .have c1:=pN c1;refine bF (show(at_:Int)-1=((at_-1:Nat):Int) by exact("$<&]{wnYVbV2|0*Gu{/%s%#",c1,rfl))▸?_;exact pE ("'qkmkol=F3=Yuo)S:c6=U*p(#",r1,c1,rfl)
   .have c3:=pN c3;have:∃r':Nat,(if(6:Int)<(run:Nat)then(6:Int)else(run:Nat))=(r':Nat)/\0<r'/\r'<=run:=⟨(if(6:Int)<(run:Nat)then(6:Int)else(run:Nat)).toNat,by split<;>omega,by split<;>omega,by split<;>omega⟩
    refine gu λP9 mG=>?_;obtain⟨r',e',r1',r2'⟩:=this;refine mG ?_;rw[e'];exact fin r' 16 ((r':Int)-3) 2 2 rfl ("") r1' r2'
  refine iL rR<|iS g0<|iQ (λ_=>iQ (λc3=>lC<|iL q4 ?_) λ_=>lD ?_) λ_=>lD ?_
  .let c3:=pN c3;let:∃r':Nat,(if(138:Int)<(run:Nat)then(138:Int)else(run:Nat))=(r':Nat)/\0<r'/\r'<=run:=⟨(if(138:Int)<(run:Nat)then(138:Int)else(run:Nat)).toNat,by split<;>omega,by split<;>omega,by split<;>omega⟩
   refine gu λP9 mG=>?_;obtain⟨r',e',r1',r2'⟩:=this;refine mG ?_;rw[e'];exact fin r' 18 ((r':Int)-11) 7 7 rfl ("") r1' r2'
  .refine iL rR<|iS g0<|iQ (λ_=>iQ (λc3=>lC<|iL q4<|fin run 17 ((run:Int)-3) 3 3 rfl ("") r0<|dg _) λ_=>lD Lf) λ_=>lD Lf
  .refine iL rR<|iS g0<|iQ (λ_=>iQ (λc3=>lC<|iL q4<|fin run 17 ((run:Int)-3) 3 3 rfl ("") r0<|dg _) λ_=>lD Lf) λ_=>lD Lf
 refine iL rR (iQ (λc1=>?_) λc1=>⟨λe=>(by cases e),λ_=>stop⟩);have c1:=pN c1;rw[cF]at c1;refine iL rR (iS (v:=.int (lU.getD (at_+run) 0:Nat)) (pE (i:=at_+run) ("$zi~$wBXu<kN*j&#",c1))<|iL rR<|iS g0<|iQ (λc2=>⟨λ_=>?_,λe=>(by cases e)⟩) λc2=>⟨λe=>(by cases e),λ_=>stop⟩);exact nx2 (j-1) _ ("7?=.d)>+f+V,om3-b5%l={>w0W(#",r1,c1,rfl) (run+1) ⟨rfl,("yut<Lcb$#"),("(E]COxn-%G3$`6UxD}w*JQ^1'F+12OK_1?.K(#",r1,c1,rfl)⟩
end
theorem HY{k z:Int}{v:V}(h:z≠k):∀{es:List (Int×V)},oV z (es.map λp=>if p.1=k then(p.1,v)else p)=oV z es
 |[]=>rfl
 |(j,w)::r=>by
  have ih:=HY (k:=k) (v:=v) h (es:=r);by_cases e:j=k
  .have l:oV z (je (λp=>if p.1=k then(p.1,v)else p)<|(j,w)::r)=if z=j then aq v else oV z (je (λp=>if p.1=k then(p.1,v)else p) r):=by rw[bS,mZ e];rfl
   rw[l,mT λc=>h<|c.trans e,ih];show _=if z=j then aq w else oV z r
   rw[mT (λc=>h<|c.trans e)]
  .have l:oV z (je (λp=>if p.1=k then(p.1,v)else p)<|(j,w)::r)=if z=j then aq w else oV z (je (λp=>if p.1=k then(p.1,v)else p) r):=by rw[bS,mT e];rfl
   rw[l];rw[ih];rfl
theorem HZ{k:Int}{v:V}:∀{es:List (Int×V)},es.any (λp=>p.1=k)=af->oV k (es.map λp=>if p.1=k then(p.1,v)else p)=aq v
 |[],h=>by exact xL h
 |(j,w)::r,h=>by
  by_cases e:j=k
  .have l:oV k (je (λp=>if p.1=k then(p.1,v)else p)<|(j,w)::r)=if k=j then aq v else oV k (je (λp=>if p.1=k then(p.1,v)else p) r):=by rw[bS];rw[mZ e];rfl
   rw[l];exact bF (mZ e.symm)▸rfl
  .have l:oV k (je (λp=>if p.1=k then(p.1,v)else p)<|(j,w)::r)=if k=j then aq w else oV k (je (λp=>if p.1=k then(p.1,v)else p) r):=by rw[bS,mT e];rfl
   rw[dH,decide_eq_false e,jQ]at h;rw[l,mT λc=>e c.symm,HZ h]
theorem EC{z k:Int}{v:V}:∀{es:List (Int×V)},es.any (λp=>p.1=k)=ag->oV z (es++[(k,v)])=if z=k then aq v else oV z es
 |[],_=>rfl
 |(j,w)::r,h=>by
  rw[dH,Bool.or_eq_false_iff]at h;have ih:=EC (z:=z) (v:=v) h.2;have e:=pZ h.1;show(if z=j then aq w else oV z<|r++[(k,v)])=if z=k then aq v else if z=j then aq w else oV z r
  rw[ih];by_cases c:z=j
  .rw[mZ c];rw[mZ c];exact bF (mT λd=>e<|c.symm.trans d)▸rfl
  .rw[mT c];exact bF (mT c)▸rfl
theorem CQ{z k:Int}{v:V}{es:List (Int×V)}:oV z (zZ k v es)=if z=k then aq v else oV z es:=by
 unfold zZ;cases h:es.any λp=>p.1=k with
 |true=>
  rw[mZ rfl];by_cases e:z=k
  .subst e;rw[mZ rfl];exact bF (HZ h)▸rfl
  .rw[mT e,HY e]
 |false=>rw[mT (""),EC h]
def ZB(H0 H:AH)(es:List<|Int×V):Prop:=∀z x,oV z es=aq x->∃r bs,x=.ref r/\H0 r=aI/\H r=aq (NL bs)/\bs.length<=15/\sV bs
def p7(H0 H:AH)(d:bp)(lU:List Nat):Prop:=∃es,H d=aq (.zd es)/\ZB H0 H es/\∀k:Nat,0<lU.getD k 0->(oV (k:Nat) es).isSome=af
theorem ZB.keep{H0 H H':AH}{es:List (Int×V)}{ms:List bp}(h:ZB H0 H es)(k:lY ms H H')(f:∀x∈ms,H0 x≠aI):ZB H0 H' es:=λz x e=>by refine gu λP9 mG=>?_;obtain⟨r,bs,rfl,h0,h1,h2⟩:=h z x e;refine mG ?_;exact⟨r,bs,rfl,h0,k _ _ h1 λm=>f r m h0,h2⟩
theorem p7.keep{H0 H H':AH}{d:bp}{lU:List Nat}{ms:List bp}(h:p7 H0 H d lU)(k:lY ms H H')(f:∀x∈ms,H0 x≠aI)(hd:H0 d=aI):p7 H0 H' d lU:=by obtain⟨es,h1,h2,h3⟩:=h;exact⟨es,k _ _ h1 λm=>f d m hd,h2.keep k f,h3⟩
section
variable{H:AH}{Q:V->AH->Prop}{E:AH->Prop}
theorem CR{a:bp}{lU:List Nat}(ha:H a=aq (NL lU))(hn:lU.length<=1000)(hb:∀x∈lU,x<=15)
  (h:∀r H',H r=aI->lY [] H H'->p7 H H' r lU->Q (.ref r) H'):mH 1 (.ref 344) [.ref a] H Q E:=by
 refine nS (n:=0) Hq ui .nil rfl ?_;refine iP λf hf=>iM (ak rfl)<|iP λt0 NH=>iL (lT _ _ _) ?_;have ft:=l9 (lT H f<|.zd []) NH;have k0:=(ly (ms:=[]) (H:=H)).new (o:=.zd []) hf|>.new (o:=.tup [.ref f,.int 0,.int 0]) NH;have f0:upd (upd H f<|.zd []) t0 (.tup [.ref f,.int 0,.int 0]) f=aq (.zd []):=by rw[lV ft];exact lT _ _ _
 have a0:=k0 _ _ ha iN;refine iM jR<|iL a0<|iM rfl<|CE rfl (λhh hk=>iL hh hk) (λhT=>hT) (λhQ=>iM (ak rfl)<|iP hQ) a0 hn λD H1 ps k1 hD0 hD V3 QT=>?_;have len:ps.length<=1000:=by have e1:=congrArg iD QT;have e2:(Ii lU lU.length).length<=lU.length:=gq (jq _ _) (by rw[iU];exact dg _);rw[cF,cF]at e1;exact("S3UYN<6?#dz[AkI^ETK&#",hn,e1,e2)
 have mem:∀p∈ps,0<=p.2.2/\p.2.2<1000000:=λp mp=>by
  have:p.2∈(Ii lU lU.length).map KV:=by rw[<-QT];exact dP mp
  obtain⟨q,mq,eq⟩:=ef.mp this;have:=(FC.mp mq).2.1;rw[<-eq];unfold KV;dsimp only;exact("':$C5yJ21Si$vT[1`HAy_E&D%#",hn,this)
 have nd:(ps.map (·.2)).Nodup:=by rw[QT,ja,jf];refine(xC lU _).imp λ{p q} lt e=>?_;have:=congrArg Prod.snd e;unfold KV at this;dsimp only at this;exact("pn1tYI?gypH%#",lt,this)
 refine iL hD<|Dg.intro ps rfl V3 mem nd ("2{_)92Sq1o~vNU$#",len) λqs perm UZ d hd=>?_;have sp:=CF hb QT perm UZ;have ql:qs.length=(u9 lU).length:=by have:=congrArg iD sp;rw[cF,cF]at this;exact this
 have pl:(u9 lU).length<=1000:=by refine ql▸?_;rw[perm.length_eq];exact len
 have kd:=(k0.trans k1).new (o:=.list (lp qs)) hd;have fd:upd H1 d (.list (lp qs)) f=aq (.zd []):=by have:=k1 _ _ f0 iN;refine bF (lV<|l9 this hd)▸?_;exact this
 have qd:∀p∈qs,upd H1 d (.list (lp qs)) p.1=aq (.tup [.int p.2.1,.int p.2.2]):=λp mp=>by have:=V3 p<|perm.mem_iff.mp mp;refine bF (lV<|l9 this hd)▸?_;exact this
 have dd:=lT H1 d<|.list (lp qs);have fd':f≠d:=λe=>by have fd:=e▸fd;have fd:=dd▸fd;cases fd
 have fq:∀p∈qs,p.1≠f:=λp mp e=>by have:=qd p mp;have this:=e▸this;have this:=fd▸this;cases this
 refine iL dd ?_;revert kd fd qd dd;generalize upd H1 d (.list (lp qs))=H2;intro kd fd qd dd;clear V3 mem nd hD hD0 k1 f0 a0 k0 ft NH QT perm UZ len hd;refine sG.tl [Option V,Option V,Int,Nat,List<|Int×V] (λ_ x4 x5 code past _=>[aq (.ref a),aq<|.ref f,aq<|.int code,aq<|.int (past:Nat),x4,x5,aI,aI,aI]) (λi _ _ _ past es h=>A6 (lY [f] H2 h) (h f=aq (.zd es)) (ZB H h es) (es.length<=i) (∀j q,i<=j->(u9 lU)[j]?=aq q->past<=q.1) (∀j q,j<i->(u9 lU)[j]?=aq q->(oV (q.2:Nat) es).isSome=af)) ⟨aI,aI,0,0,[],⟨.refl,fd,λz x e=>(by exact pB e),dg _,λ_ _ _ _=>aR _,λ_ _ c=>absurd c<|Nat.not_lt_zero _⟩,rfl⟩ ?_ ?_ ?_
 .rintro i h x4 x5 code past es ⟨k,_⟩;exact k _ _ dd λm=>fd' (aH.mp m).symm
 .rintro i h x K hx hK x4 x5 code past es ⟨k,q1,q2,q3,q4,q5⟩;unfold lp at hx;have hx:=cj▸hx;cases e:qs[i]? with
  |none=>have hx:=e▸hx;exact pB hx
  |some p=>
   have hx:=e▸hx;obtain rfl:=(qz hx).symm;have m:=bR e;obtain⟨q,eq,ep⟩:∃q,(u9 lU)[i]?=aq q/\p.2=KV q:=by
    have:(qs.map (·.2))[i]?=((u9 lU).map KV)[i]?:=by exact bF sp▸rfl
    have this:=cj▸this;let this:=cj▸this;have this:=e▸this;cases c:(u9 lU)[i]? with
    |none=>have this:=c▸this;cases this
    |some q=>let this:=c▸this;exact⟨q,rfl,by injection this⟩
   let il:=(bZ.mp eq).1;let tp:=k _ _ (qd p m) λc=>fq p m<|aH.mp c;rw[ep]at tp;let tp:h p.1=aq (.tup [.int (q.1:Nat),.int (q.2:Nat)]):=tp;have Sh:=q4 i q (dg _) eq;have qm:=yr.mp<|bR eq;let qb:=qm.2.1;have s2:(q.1:Int)-(past:Nat)=((q.1-past:Nat):Int):=("(,yf7XIwD<A{6|T%IV0}C&#",Sh,rfl);have pb:=HD (k:=(((q.1:Nat):Int)-(past:Nat)).toNat) ("%HjGQI:x36~xmUqB~<>v0'PuJ^N|.[/)#",qm,rfl);refine iL tp (iM jR<|iM ⟨⟨("'<'^9cN)U$,*Txm|&#",s2),("%y8L5sRa8k6XPYfCtdt-0X-OOn|(#",qm)⟩,by decide⟩<|iM (uj ("&tpsn&iSCv*]1OhT-8nc/Yy').;k&L'up%#$",pb) pb.2)<|iM (ak rfl)<|iP λt1 YS=>iL (lT _ _ _)<|iM jR ?_);generalize code*_=Ia;let ft1:=l9 q1 YS;let dt1:=l9 tp YS;let k1:=k.new (o:=.tup [.int Ia,.int (q.1:Nat)]) YS;refine iM ⟨("8yRq?{+38ds)j$#"),("K_n'W(;~--'l<Dc~:6}|Vm_]zU9'#",qm)⟩ (iM rfl<|lu [Option V,Option V,List Nat] (λ_ _ x0 x1 _=>[x0,x1,aq<|.int Ia,aq<|.int (q.1:Nat)]) (λD j _ _ bs h'=>A4 (lY [] (upd h t1<|.tup [.int Ia,.int (q.1:Nat)]) h') (h' D=aq (NL bs)) (bs.length=j)<|sV bs) (λ_ hD=>⟨aI,aI,[],⟨lY.refl.new hD,lT _ _ _,rfl,λ_ m=>(by cases m)⟩,rfl⟩) (λ_ _ _ _ _ _ _ _=>trivial) ?_ ?_)
   .rintro D hD j h' K' Lg x0 x1 bs ⟨c1,c2,c3,c4⟩ hj;let hj:j<((q.1:Nat):Int).toNat:=by let:j<(((q.1:Nat):Int)-0).toNat:=hj;exact("&BBl|}]EMZ5QR$mAfFwqu.ho'#",hj,rfl,rfl)
    let pj:((q.1:Nat):Int)-(0+1*(j:Nat))-1=((q.1-j-1:Nat):Int):=("(LT_;(OWb2^$<ja9rS7*E/qx$v=BB>ZM207?</~eMK7e1w6*X[5b6(#",hj,("%"),rfl,rfl);let pb:=HD (k:=(((q.1:Nat):Int)-(0+1*(j:Nat))-1).toNat) ("&QBW6y[fc1'Y(/U./b}lFH-T)T?R_?^O/AM;)#",qm,rfl);refine lC (iM ⟨⟨(",'plVAzn_j|h~(:n:.{'0LLH):&#",pj),("';G3,_RSDz_}0?K7&=$UiWS-xAkigNw~(#",qm)⟩,by decide⟩<|iM pb<|iM ("")<|iL c2<|iM (by rw[cF];exact("&OXl4I3/KT,9^=F>L5/tE/SLf<c805h^k0SzBk_TS*#",qm,c3,pj)) ?_);generalize Ia/_=w;have w2:w % 2=((w % 2).toNat:Nat):=("Ix2O<8--#+&5,Yp`&[[$&",by exact jl rfl rfl rfl,("%"));refine Lg _ _ _ (bs++[(w % 2).toNat]) ⟨c1.oY hD,?_,by rw[cz];rw[c3];rfl,c4.app λx m=>by rw[aH.mp m];exact("VvS<XZ:eGwugHH2O$&",by exact jl rfl rfl rfl,("%"))⟩;rw[lT,w2];exact congrArg aq<|oZ bs [(w % 2).toNat]
   .rintro D hD h' x0 x1 bs ⟨c1,c2,c3,c4⟩;let kk:=k1.trans<|c1.more λx m=>(iN m).elim;have kl:bs.length=q.1:=by rw[c3];show(((q.1:Nat):Int)-0).toNat=_;exact("6jDaobybc)q<,~P%#",rfl)
    have f':=c1 _ _ (by rw[lV ft1];exact q1) iN;have fD:D≠f:=λe=>by let hD:=e▸hD;let hD:=(lV ft1)▸hD;let hD:=q1▸hD;exact rQ hD
    let z':ZB H h' es:=q2.keep (ms:=[]) ((lY.refl.new YS).trans c1) λx m=>(iN m).elim;have hDH:H D=aI:=by
     refine kd.F6<|k.nn q1 ?_;by_cases e:D=t1
     .rw[e,lT]at hD;exact rQ hD
     .let hD:=(lV e)▸hD;exact hD
    refine iL f'<|iM ("$(KrQL=KPQH53'mUSA*_R*&#",pl,q3,il)<|iM jR<|hK _ _ _ (Ia+1) q.1 (zZ ((q.2:Nat):Int) (.ref D) es) ⟨kk.upd<|.head _,lT _ _ _,?_,?_,?_,?_⟩
    .intro z x e;let e:=CQ▸e;by_cases ez:z=((q.2:Nat):Int)
     .let e:=(mZ ez)▸e;obtain rfl:=qz e;exact⟨D,bs,rfl,hDH,by rw[lV fD];exact c2,("'*;p`:M0Au^$oCqEox,<)I>W(#",qm,kl),c4⟩
     .have e:=(mT ez)▸e;obtain⟨r,X6,rfl,h0,h1,h2⟩:=z' z x e;exact⟨r,X6,rfl,h0,by rw[lV (λc=>by rw[c,f']at h1;cases h1)];exact h1,h2⟩
    .exact gq (Ol _ _ _)<|Nat.succ_le_succ q3
    .intro j q' hj ej;let:=(List.pairwise_iff_getElem.mp<|vS lU) i j il (bZ.mp ej).1 hj;let this:=(bZ.mp eq).2▸this;let this:=(bZ.mp ej).2▸this;unfold Pv at this;exact("?IYB'T$q8%xIVSHZ4%'#",this)
    .intro j q' hj ej;rw[CQ];by_cases ez:((q'.2:Nat):Int)=((q.2:Nat):Int)
     .rw[mZ ez];rfl
     .rw[mT ez];refine q5 j q' ?_ ej;rcases aU j i with c|c
      .exact c
      .let:j=i:=("PLQ~jDhn(q?0Ic_%#",hj,c);let ej:=this▸ej;let ej:=eq▸ej;obtain rfl:=qz ej;exact(ez rfl).elim
 .intro h' x4 x5 code past es jj;let k:=jj.1;let q1:=jj.2;let q2:=jj.3;let q3:=jj.4;let q4:=jj.5;let q5:=jj.6;let lr:(lp qs).length=qs.length:=by unfold lp;rw[cF]
  let q5:=lr▸q5;let q5:=ql▸q5;refine h f h' hf (kd.fresh k λx m=>by rw[aH.mp m];exact hf) ⟨es,q1,q2,λz hz=>?_⟩;have zl:z<lU.length:=by
   rcases aU z lU.length with c|c
   .exact c
   .let hz:=bq▸hz;have hz:=(i8 c)▸hz;cases hz
  let zb:lU.getD z 0<=15:=by refine bF bq▸?_;rw[bU zl];exact hb _<|i7 _
  let mm:(lU.getD z 0,z)∈u9 lU:=yr.mpr ⟨hz,zb,zl,rfl⟩;obtain⟨j,hj,ej⟩:=kA.mp mm;exact q5 j _ hj<|bZ.mpr ⟨hj,ej⟩
end
theorem qv(l:List Nat):(l.map λ(n:Nat)=>iR n)=(l.map λ(n:Nat)=>(n:Int)).map iR:=by rw[cO];rfl
theorem sum_nat:∀l:List Nat,(l.map λ(n:Nat)=>(n:Int)).sum=(l.sum:Nat)
 |[]=>rfl
 |x::l=>by rw[bS,List.sum_cons,List.sum_cons,sum_nat l,jU]
section
variable{H:AH}{Q:V->AH->Prop}{E:AH->Prop}
theorem Nh{b c:bp}{lL cs:List Nat}(hb:H b=aq (NL lL))(hc:H c=aq (NL cs))(h2:sV lL)(hn:lL.length<=100000)(VX:cs.length<=1000)
  (h:∀H' mI,mI.length<=lL.length+39+8*cs.length->sV mI->lY [b] H H'->H' b=aq (NL mI)->Q .none H')(bc:b≠c):mH 2 (.ref 370) [.ref b,.ref c] H Q E:=by
 refine nS (n:=1) Fo DD .nil rfl ?_;refine iL hc<|iM rfl<|lu [Option V,Option V,List Nat] (λ_ _ x0 x1 _=>[x0,x1]) (λD j _ _ ps h'=>A4 (lY [] H h') (h' D=aq (NL ps)) (ps.length=j)<|j<=cs.length) (λ_ hD=>⟨aI,aI,[],⟨lY.refl.new hD,lT _ _ _,rfl,aR _⟩,rfl⟩) ?_ ?_ ?_
 .intro D hD j h' x0 x1 ps jj;let k:=jj.1;let q1:=jj.2;let q2:=jj.3;let q3:=jj.4;exact k _ _ hc iN
 .rintro D hD j h' K hK x0 x1 ps ⟨k,q1,q2,q3⟩ x hx;obtain⟨lt,rfl⟩:=qC hx;refine lC (iM ("")<|iL q1<|iM (by rw[cF];exact("%-h.LVR#g1bv9r.[YFR0^z&#",VX,q2,lt))<|hK _ _ _ (ps++[cs.getD j 0 % 256]) ⟨k.oY hD,?_,by rw[cz,q2];rfl,lt⟩);rw[lT,show((cs.getD j 0:Nat):Int) % 256=((cs.getD j 0 % 256:Nat):Int) by exact("-Eiv/M[F[E))wAMpmg*>H=)4)<,Ws]ZA^&%",by exact jl rfl rfl rfl,by exact jN rfl rfl rfl)];exact congrArg aq<|oZ ps [cs.getD j 0 % 256]
 .rintro D hD h' x0 x1 ps ⟨k,q1,q2,q3⟩;have pl:ps.length=cs.length:=by
   rw[q2];show(cs.map λ(n:Nat)=>iR n).length=_;rw[cF]
  let c1:=k _ _ hc iN;have b1:=k _ _ hb iN;let bD:=l9 hb hD;refine iL q1<|iL c1<|jt (qv cs)<|iM ("")<|iL b1<|iL c1<|jt (qv cs)<|iM ("")<|iM (ak rfl)<|iP λd hd=>?_;rw[sum_nat];let bd:=l9 b1 hd;let w2:((cs.sum:Nat):Int) % 2=((cs.sum % 2:Nat):Int):=("(.^W^?eEZ_d%l<'VHO/2%`<O7n1A4gG&%",by exact jl rfl rfl rfl,by exact jN rfl rfl rfl);rw[w2];let d1:upd h' d (.list [.int ((cs.sum % 2:Nat):Int)]) d=aq (NL [cs.sum % 2]):=lT _ _ _;let kd:=k.new (o:=.list [.int ((cs.sum % 2:Nat):Int)]) hd;refine iL (o:=NL lL) (by rw[lV bd];exact b1) (iM ("")<|iL d1<|iM ⟨⟨by rw[cF];exact("%VtH<Wcsz}}N_,a3VoMw*pK$%",by exact jl rfl rfl rfl),by rw[cF];exact("D/z~gj;Ak[B_jl{(AD>'M2$%",by exact jl rfl rfl rfl)⟩,?_⟩<|iP λe he=>?_)
  .rw[cF,cF];exact gq (Nat.le_of_eq<|Nat.one_mul _)<|Int.toNat_le.mpr<|gR (aV<|aG _ ("")) ("")
  let hk:∃k:Nat,(-((lL.map λ(n:Nat)=>iR n).length:Int)) % 8=(k:Nat)/\k<=7:=⟨((-((lL.map λ(n:Nat)=>iR n).length:Int)) % 8).toNat,(Int.toNat_of_nonneg<|aL _ ("")).symm,Int.toNat_le.mpr<|Int.le_of_lt_add_one<|aG _ ("")⟩;obtain⟨k,ek,k7⟩:=hk;let er:qa ((-((lL.map λ(n:Nat)=>iR n).length:Int)) % 8).toNat ([cs.sum % 2].map λ(n:Nat)=>iR n)=(oy k [cs.sum % 2]).map λ(n:Nat)=>iR n:=by rw[ek,show((k:Nat):Int).toNat=k by exact("s4RlOb-;:~iss%#",rfl),rP]
  let ee:upd (upd h' d<|.list [.int ((cs.sum % 2:Nat):Int)]) e (.list (qa ((-((lL.map λ(n:Nat)=>iR n).length:Int)) % 8).toNat ([cs.sum % 2].map λ(n:Nat)=>iR n))) e=aq (NL<|oy k [cs.sum % 2]):=by rw[lT,er];rfl
  let be:=l9 (by rw[lV bd];exact b1) he;let bb:upd (upd h' d<|.list [.int ((cs.sum % 2:Nat):Int)]) e (.list (qa ((-((lL.map λ(n:Nat)=>iR n).length:Int)) % 8).toNat ([cs.sum % 2].map λ(n:Nat)=>iR n))) b=aq (NL lL):=by rw[lV be,lV bd];exact b1
  let ke:=kd.new (o:=.list (qa ((-((lL.map λ(n:Nat)=>iR n).length:Int)) % 8).toNat ([cs.sum % 2].map λ(n:Nat)=>iR n))) he;let rl:(oy k [cs.sum % 2]).length<=7:=by rw[pW];exact gq (Nat.le_of_eq<|Nat.mul_one k) k7
  have bD':D≠b:=bD.symm;have D1:upd (upd h' d<|.list [.int ((cs.sum % 2:Nat):Int)]) e (.list (qa ((-((lL.map λ(n:Nat)=>iR n).length:Int)) % 8).toNat ([cs.sum % 2].map λ(n:Nat)=>iR n))) D=aq (NL ps):=by let De:=l9 (b:=e) (by rw[lV (l9 q1 hd)];exact q1) he;rw[lV De,lV<|l9 q1 hd];exact q1
  refine iL bb<|iL ee<|iM ?_ ?_
  .rw[cF,cF];exact(".rK1:B#l+<6U3|mY*'hG}%#",hn,rl)
  let w01:sV (lL++oy k [cs.sum % 2]):=h2.app λx m=>by rw[aH.mp (rD m)];exact("-e}0as(bIw&&#",by exact jN rfl rfl rfl)
  have wl:(lL++oy k [cs.sum % 2]).length<=lL.length+7:=by rw[cz,pW];exact Nat.add_le_add_left (gq (Nat.le_of_eq<|Nat.mul_one k) k7) _
  let b2:=lT (upd (upd h' d<|.list [.int ((cs.sum % 2:Nat):Int)]) e<|.list (qa ((-((lL.map λ(n:Nat)=>iR n).length:Int)) % 8).toNat ([cs.sum % 2].map λ(n:Nat)=>iR n))) b<|NL<|lL++oy k [cs.sum % 2];let k2:=(ke.more (ns:=[b]) λx m=>(iN m).elim).upd (o:=NL<|lL++oy k [cs.sum % 2]) (.head _);let D2:=(lV (o:=NL<|lL++oy k [cs.sum % 2]) bD').trans D1;have Db:D∉[b]:=λm=>bD'<|aH.mp m;let nx:NL (lL++oy k [cs.sum % 2])=.list ((lL.map λ(n:Nat)=>iR n)++(oy k [cs.sum % 2]).map λ(n:Nat)=>iR n):=(oZ _ _).symm;rw[nx]at b2 k2 D2
  replace b2:=b2.trans<|congrArg aq nx.symm
  refine iL D2<|lw rfl ("")<|sr (m:=16) rfl b2 w01 ("") ("EL4c^VZ.)b#-~)F:r[Sm%#",hn,wl) λH3 ab4 l3 o3 k3 b3=>?_;have D3:=k3 _ _ D2 Db;have X0:=k2.trans k3;refine lw rfl ("")<|sr (m:=16) rfl b3 o3 ("") ("TmhQo|o-Vw={A*T~8EXmp2|V.&#",hn,wl,l3) λH4 PT l4 o4 k4 b4=>?_;let D4:=k4 _ _ D3 Db;let Ty:=X0.trans k4;refine iL D4<|sG.tl [Option V,List Nat,Int] (λ_ x _ m=>[aq (.ref b),aq<|.ref c,aq<|.ref D,aq<|.int m,x,aI,aI,aI,aI]) (λi _ zX _ h=>A5 (zX.length=PT.length+8*i) (i<=ps.length) (sV zX) (lY [b] H4 h)<|h b=aq (NL zX)) ⟨aI,PT,_,⟨rfl,aR _,o4,.refl,b4⟩,rfl⟩ ?_ ?_ ?_
  .intro i h x zX m jj;let l5:=jj.1;let i5:=jj.2;let o5:=jj.3;let k5:=jj.4;let b5:=jj.5;exact k5 _ _ D4 Db
  .rintro i h x K hx hK x0 zX m ⟨l5,i5,o5,k5,b5⟩;obtain⟨lt,rfl⟩:=qC hx;refine lw rfl ("")<|sr (m:=8) rfl b5 o5 ("") ("*c]jT8k~?_X$gIXkat*H`AWmr,63XP2t`6I^KZOBm%b+&./u*nf5+#",hn,VX,pl,wl,l3,l4,l5,lt) λH6 TF l6 o6 k6 b6=>hK _ _ TF m ⟨("io5l$AFS/F[Bpc3gscHlB6hCK-'#",l5,l6),lt,o6,k5.trans k6,b6⟩
  .intro h9 x zX m jj;let l5:=jj.1;let i5:=jj.2;let o5:=jj.3;let k5:=jj.4;let b5:=jj.5;rw[cF]at l5;exact h h9 zX ("$_m2on|;bY^y~^Z+/w$/lpGb+4M1Q&t?,`{q(^,*#",pl,wl,l3,l4,l5) o5 (Ty.trans k5) b5
end
theorem Ni(l:List Nat)(k:Nat):mK (l.map λ(n:Nat)=>iR n) (aq<|(0:Int)+8*(k:Nat)) (aq<|(0:Int)+8*(k:Nat)+8)=((l.drop<|8*k).take 8).map λ(n:Nat)=>iR n:=by
 unfold mK;show jO (clipAt _ _-clipAt _ _) (kh (clipAt _ _) _)=_;let e:∀(z:Int)(m:Nat),z=(m:Nat)->clipAt (iD<|je (λ(n:Nat)=>iR n) l) z=min m l.length:=λz m hz=>by subst hz;rw[cF];exact xG
 rw[e _ (8*k+8) ("*&:fkigS{ELvQmth$#"),e _ (8*k) ("$7&jw3l4nw]gQ$#"),<-kc,<-List.map_take];congr 1;by_cases h:8*k<=l.length
 .rw[iE h];by_cases h':8*k+8<=l.length
  .rw[iE h',jJ]
  .rw[jA ("ChM'CJ7`UJ4a6FpH%#",h'),g6 (by rw[jd];exact("n_&86$#")),g6 (by rw[jd];exact("()d4.l-=,G$BK#dC?,j2$&#",h',rfl))]
 .rw[jA (("$GWMXt^Qr<eY?wZ%#",h):l.length<=8*k+8),jA (("(OZ/glIm$paBB%#",h):l.length<=8*k),iB,kC,io ("(OZ/glIm$paBB%#",h)];rfl
section
variable{H:AH}{Q:V->AH->Prop}{E:AH->Prop}
theorem Nj{b:bp}{lL:List Nat}(hb:H b=aq (NL lL))(h2:sV lL)(hn:lL.length<=700000)
  (h:∀r H' ps,H r=aI->lY [] H H'->H' r=aq (NL ps)->8*ps.length<=lL.length+7->(∀x∈ps,x<256)->Q (.ref r) H'):mH 1 (.ref 380) [.ref b] H Q E:=by
 refine nS (n:=0) Fz DU .nil rfl ?_;refine iL hb (iM ⟨rfl,rfl,("Ao/DVr$#"),by rw[cF];exact(":4dQV#$fkMK3a[T#DId$#",hn)⟩<|iM rfl<|lu [Option V,Option V,Option V,Option V,List Nat] (λ_ _ x0 x1 x2 x3 _=>[x0,x1,x2,x3,aq<|.ref b]) (λD j _ _ _ _ ps h=>A5 (lY [] H h) (h D=aq (NL ps)) (ps.length=j) (∀x∈ps,x<256)<|8*j<=lL.length+7) (λD hD=>⟨aI,aI,aI,aI,[],⟨lY.refl.new hD,lT _ _ _,rfl,λ_ m=>(by cases m),("8Vg{2t;bK$#")⟩,rfl⟩) (λ_ _ _ _ _ _ _ _ _ _=>trivial) ?_ ?_)
 .rintro D hD j h' K hK x0 x1 x2 x3 ps ⟨k,q1,q2,q3,q4⟩ hj;let hj:j<(((lL.map λ(n:Nat)=>iR n).length:Int)+7).toNat/8:=by
   exact hj
  rw[cF]at hj;let b1:=k _ _ hb iN;have bl:((lL.drop<|8*j).take 8).length<=8:=by rw[eW];exact("&|mB9X,'y=,u%#",rfl)
  let s01:sV ((lL.drop<|8*j).take 8):=λx m=>h2 x<|iX<|iZ m;refine lC<|iL b1<|iP λd hd=>?_;rw[Ni];revert bl s01;generalize(lL.drop<|8*j).take 8=sl;intro bl s01;refine iL (lT _ _ _) (iM rfl<|lu [Option V,Option V,Option V,List Nat] (λ_ _ x0 x1 x2 _=>[x0,x1,x2]) (λD j _ _ _ vs h=>A5 (lY [] (upd h' d<|.list (sl.map λ(n:Nat)=>iR n)) h) (h D=aq (NL vs)) (vs.sum<2^j) (vs.length=j)<|j<=8) (λD hD=>⟨aI,aI,aI,[],⟨lY.refl.new hD,lT _ _ _,by decide,rfl,by decide⟩,rfl⟩) (λD hD i h x0 x1 x2 vs j=>j.h1 _ _ (lT _ _ _) iN) ?_ ?_)
  .rintro D2 NF i h2 K' Lg x0 x1 x2 vs ⟨k2,c1,c2,c3,c4⟩ x tt hx ht;obtain⟨lt,rfl⟩:=qC hx;let b2:sl.getD i 0<2:=by rw[bq,bU lt];exact s01 _<|i7 _
   let Dt:=l9 c1 ht;have pb:=HD (k:=((i:Nat):Int).toNat) ("&P&6+ys(j98agi$L%#",c4,rfl);refine iL (lT _ _ _) (lC<|iM ⟨⟨("Ao/DVr$#"),("%mT2rf>pP5Jr*$#",c4)⟩,by decide⟩<|iM (uj ("&tpsn&iSCv*]1OhT-8nc/Yy').;k&L'up%#$",pb) pb.2)<|iL (o:=NL vs) (by rw[lV Dt];exact c1)<|iM (by rw[cF];exact("f76SRmDA4R5~D?Au%#",c3,c4))<|Lg _ _ _ _ (vs++[sl.getD i 0*2^i]) ⟨(k2.new ht).oY NF,?_,?_,by rw[cz,c3];rfl,("+'OS^>xucpUA5g%#",bl,lt)⟩)
   .rw[lT,show((i:Nat):Int).toNat=i by exact("s4RlOb-;:~iss%#",rfl),sf,<-jE];exact congrArg aq<|oZ vs [sl.getD i 0*2^i]
   .rw[kq,jg];show vs.sum+(sl.getD i 0*2^i+0)<_;let:sl.getD i 0*2^i<=1*2^i:=kB _ ("(D}-P2[`t$#",b2);exact(".chBL/)HU4Y1$7v+(.E&#",c2,this)
  .intro D2 NF h2 x0 x1 x2 vs jj;let k2:=jj.1;let c1:=jj.2;let c2:=jj.3;let c3:=jj.4;let c4:=jj.5;refine iL c1<|jt (qv vs)<|iL (o:=NL ps) ?_<|iM ?_<|hK _ _ _ _ _ (ps++[vs.sum]) ⟨((k.new hd).trans k2).oY hD,?_,?_,?_,?_⟩
   .let Vx:(upd h' d<|.list (sl.map λ(n:Nat)=>iR n)) D=aq (NL ps):=by rw[lV (l9 q1 hd)];exact q1
    exact k2 _ _ Vx iN
   .rw[cF];exact("*RS].X(QI(JKVox`c_|aLOTmNnt,&#",hn,q2,q4)
   .rw[lT,sum_nat];exact congrArg aq<|oZ ps [vs.sum]
   .rw[cz,q2];rfl
   .intro x m;rcases aE.mp m with m|m
    .exact q3 x m
    .rw[aH.mp m];let:sl.length<=8:=bl;let p8:2^(sl.map λ(n:Nat)=>iR n).length<=2^8:=jS ("") (by rw[cF];exact bl);exact hH c2 p8
   .exact(")_4N]<:Frr'[/A7JhIH#S'y1/fF/'#",hj,("%"),rfl)
 .intro D hD h' x0 x1 x2 x3 ps jj;let k:=jj.1;let q1:=jj.2;let q2:=jj.3;let q3:=jj.4;let q4:=jj.5;refine h D h' ps hD k q1 ?_ q3;rw[q2];exact q4
end
abbrev DW(b c li di lc dc:bp)(v2 v3 v4 v7 v8 v11 va F7 zY yF yG:Option V):Loc:=[aq (.ref b),aq<|.ref c,v2,v3,v4,aq<|.ref li,aq<|.ref di,v7,v8,aq<|.ref lc,aq<|.ref dc,v11,va,F7,zY,yF,yG,aI,aI,aI,aI,aI,aI,aI,aI,aI,aI,aI]
section
variable{H H0:AH}{Q:V->AH->Prop}{E:AH->Prop}
theorem Si{b r:bp}{lL bs:List Nat}{K:V->AH->Prop}(hb:H b=aq (NL lL))(hr:H r=aq (NL bs))(hn:lL.length+bs.length<=16777216)(hK:∀H',lY [b] H H'->H' b=aq (NL<|lL++bs)->K .none H'):Rt b K [.ref r] H:=by refine iL hb (iL hr<|iM (by rw[cF,cF];exact hn)<|hK _ (lY.refl.upd<|.head _) ?_);rw[lT];exact congrArg aq<|oZ lL bs
theorem X7{b:bp}{x:V}{lL:List Nat}{K:V->AH->Prop}(hx:∃r bs,x=.ref r/\H r=aq (NL bs)/\bs.length<=15/\sV bs)(hb:H b=aq (NL lL))(hn:lL.length<=1000000)(h2:sV lL)(hK:∀H' mI,mI.length<=lL.length+15->sV mI->lY [b] H H'->H' b=aq (NL mI)->K .none H'):Rt b K [x] H:=by obtain⟨r,bs,rfl,h1,h3,h4⟩:=hx;exact Si hb h1 ("$'tO;)a)?g8x>2#IxaSrCu%#",hn,h3) λH' k e=>hK H' _ (by rw[cz];exact("C5M/3A=W~i~T%#",h3)) (h2.app h4) k e
theorem PU{H':AH}{es:List (Int×V)}{e:bp}(h:ZB H0 H es)(k:lY [] H H')(he:H' e=aq (NL []))(z:Int):∃r bs,(oV z es).getD (.ref e)=.ref r/\H' r=aq (NL bs)/\bs.length<=15/\sV bs:=by
 cases q:oV z es with
 |none=>exact⟨e,[],rfl,he,aR _,λ_ m=>by cases m⟩
 |some x=>
  refine gu λP9 mG=>?_;obtain⟨r,bs,rfl,r0,r1,r2⟩:=h z x q;refine mG ?_;exact⟨r,bs,rfl,k _ _ r1 iN,r2⟩
theorem yA(H:AH)(b:bp)(x y:List Nat):upd H b (.list ((x.map λ(n:Nat)=>iR n)++y.map λ(n:Nat)=>iR n)) b=aq (NL<|x++y):=by rw[lT];exact congrArg aq<|oZ x y
theorem Nk{b c li di lc dc:bp}{lL cs lN nO l1 l2:List Nat}{v2 v3 v4 v7 v8 v11 va F7 zY yF yG:Option V}
  (hb:H b=aq (NL lL))(h2:sV lL)(hn:lL.length<=200000)(hc:H c=aq (NL cs))(cl:cs.length<=100)(bc:b≠c)
  (Lh:H li=aq (NL lN))(QV:b≠li)(PI:lN.length<=100)(NI:H di=aq (NL nO))(QW:b≠di)(Sj:nO.length<=100)
  (Sk:p7 H0 H lc l1)(QN:p7 H0 H dc l2)(X8:H0 b≠aI)(X9:H0 lc=aI)(YT:H0 dc=aI)
  (s1:∀x∈lN,0<l1.getD x 0/\x<=285)(s2:∀x∈nO,0<l2.getD x 0/\x<=29)
  (h:∀H' mI,mI.length<=lL.length+15+cs.length*48->sV mI->lY [b] H H'->H' b=aq (NL mI)->Q .none H'):
  (w6).ev (DW b c li di lc dc v2 v3 v4 v7 v8 v11 va F7 zY yF yG) H E (λ_ H=>Q .none H) (λ_ _=>False) Q:=by
 let cb:c∉[b]:=λm=>bc (aH.mp m).symm;have lib:li∉[b]:=λm=>QV (aH.mp m).symm;let dib:di∉[b]:=λm=>QW (aH.mp m).symm;have f0:∀x∈[b],H0 x≠aI:=λx m=>by rw[aH.mp m];exact X8
 refine iL hc<|sG.tl [Option V,Option V,Option V,List Nat] (λ_ v3 va yG _=>DW b c li di lc dc v2 v3 v4 v7 v8 v11 va F7 zY yF yG) (λi _ _ _ mI h=>A5 (mI.length<=lL.length+48*i) (i<=cs.length) (sV mI) (lY [b] H h)<|h b=aq (NL mI)) ⟨v3,va,yG,lL,⟨jz _ _,aR _,h2,.refl,hb⟩,rfl⟩ ?_ ?_ ?_
 .intro i h v3 va yG mI jj;let q1:=jj.1;let q2:=jj.2;let q3:=jj.3;let q4:=jj.4;let q5:=jj.5;exact q4 _ _ hc cb
 .rintro i h x K hx hK v3 va yG mI ⟨q1,q2,q3,q4,q5⟩;obtain⟨lt,rfl⟩:=qC hx;generalize cs.getD i 0=cell;have next:∀{h':AH}{yB:List Nat}{va yG:Option V},lY [b] H h'->h' b=aq (NL yB)->sV yB->yB.length<=mI.length+48->K (DW b c li di lc dc v2 (aq<|.int (cell:Nat)) v4 v7 v8 v11 va F7 zY yF yG) h':=λ{h' yB va yG} k e o l=>hK _ _ _ _ yB ⟨("45U~F#NBt^VipIhCH$.9*H7joq'#",q1,l),lt,o,k,e⟩
  have fin:∀{h':AH}(sg:Nat),lY [b] H h'->h' b=aq (NL mI)->(sg≠256->0<l1.getD sg 0/\sg<=285)->(yp).ev (DW b c li di lc dc v2 (aq<|.int (cell:Nat)) v4 v7 v8 v11 (aq<|.int (sg:Nat)) F7 zY yF yG) h' E K K Q:=λ{h'} sg k5 e5 hsg=>by
   refine iQ (λc1=>?_) λc1=>next k5 e5 q3 ("^FKdKr(&$#")
   let c1:(!decide (((sg:Nat):Int)=((256:Nat):Int)))=af:=c1;rw[Bool.not_eq_true',decide_eq_false_iff_not]at c1;obtain⟨sl,Yb⟩:=hsg ("%o1%Z#'<*1ZVa:mr|$#",c1);refine gu λP9 mG=>?_;obtain⟨es,z1,z2,z3⟩:=Sk.keep k5 f0 X9;refine mG ?_;obtain⟨x,hx⟩:=bN.mp<|z3 sg sl;refine gu λP9 mG=>?_;obtain⟨r,bs,rfl,_,r1,r2,r3⟩:=z2 _ _ hx;refine mG ?_;refine iL e5 (iL z1<|wT.intro hx<|iL e5<|iL r1<|iM (by rw[cF,cF];exact(".>z}x2~XwSX)sE^+F<NF*P.#N,RN%3QtW;aG'4G(#",hn,cl,q1,lt,r2)) ?_);let e6:=yA h' b mI bs;have o6:=q3.app r3;have b6:(mI++bs).length<=mI.length+15:=by rw[cz];exact("C5M/3A=W~i~T%#",r2)
   have k6':=k5.upd (o:=.list ((mI.map λ(n:Nat)=>iR n)++bs.map λ(n:Nat)=>iR n))<|.head _;refine iQ (λc2=>?_) λc2=>next k6' e6 o6 ("~D'#uC32;OwfL%#",b6)
   have c2:=pN c2;have sz:=HG (k:=sg-257) ("]M^j8POYy|Y;+)LZjm%#",Yb,rfl);refine iM ("")<|lw rfl ("")<|K7 (k:=sg-257) ("$rCVj68*9`l~wkjaCRYIVrtkK/%#",c2,rfl) ("]M^j8POYy|Y;+)LZjm%#",Yb,rfl) λa1 H7 k7 wR t1=>iL t1<|iS (v:=.int (nL<|sg-257).2) rfl ?_;let e7:=k7 _ _ e6 iN;let k7':=k6'.trans<|k7.more λx m=>(iN m).elim;refine lw rfl ("")<|sr rfl e7 o6 ("??5N.>)%XaDVo2>^Z_%#",sz) ("Cm~|S1M%V..]2596p8hF[|-]eAgvh+,Eb2N`_8(#",hn,cl,q1,lt,b6) λH8 Ib b8 o8 k8 e8=>?_;have k8':=k7'.trans k8;have YU:=k8' _ _ NI dib;refine iM (ak rfl) (iP λe he=>iL (o:=NL nO) (by rw[lV (l9 YU he)];exact YU)<|iL (lT _ _ _)<|iM (.inr rfl)<|iQ (λc0=>?_) λc0=>next (k8'.new he) (by rw[lV (l9 e8 he)];exact e8) o8 ("ThKQ)MAULku8EKLn-p72~C#GiJDR4#4(#",b6,sz,b8));have c0:nO≠[]:=λe=>by subst e;exact xL c0
   let cl:=jc.mpr c0;let gi:qA (nO.map λ(n:Nat)=>iR n) ((cell:Int)/11 % ((nO.map λ(n:Nat)=>iR n).length:Nat))=aq (.int (nO.getD (cell/11 % nO.length) 0:Nat)):=by rw[cF,show((cell:Int)/11)=((cell/11:Nat):Int) by exact("$8P^JP8SRhuA<+6wh%OR-%$",rfl,rfl),<-ki];exact pE<|aO _ cl
   have mm:nO.getD (cell/11 % nO.length) 0∈nO:=by rw[bq,bU<|aO _ cl];exact i7 _
   let d0:=(s2 _ mm).1;let YV:=(s2 _ mm).2;revert gi d0 YV;generalize nO.getD (cell/11 % nO.length) 0=fr;intro gi d0 YV;let di9:upd H8 e (.list []) di=aq (NL nO):=by rw[lV (l9 YU he)];exact YU
   have e9:upd H8 e (.list []) b=aq (NL Ib):=by rw[lV (l9 e8 he)];exact e8
   let k9:=k8'.new (o:=.list []) he;refine iM ("") (iL di9<|iM (by rw[cF];exact("Nulqr|P0[$#",cl))<|iL di9<|iS gi ?_);refine gu λP9 mG=>?_;obtain⟨es',y1,y2,y3⟩:=QN.keep k9 f0 YT;refine mG ?_;obtain⟨x',Rk⟩:=bN.mp<|y3 fr d0;refine gu λP9 mG=>?_;obtain⟨r',X6,rfl,_,w1,w2,w3⟩:=y2 _ _ Rk;refine mG ?_;refine iL e9 (iL y1<|wT.intro Rk<|iL e9<|iL w1<|iM (by rw[cF,cF];exact("%a1S0Y:3N:}C.UFeyO`[/oUAInZ=7llXZWxe^{?'h`>iFbrj0?YAx<?~wLtux{&.,#",hn,(by assumption),q1,lt,b6,sz,b8,w2)) ?_);let WV:=yA (upd H8 e<|.list []) b Ib X6;let o10:=o8.app w3;have Lb:(Ib++X6).length<=Ib.length+15:=by rw[cz];exact("C5M/3A=W~i~T%#",w2)
   let Sl:=k9.upd (o:=.list ((Ib.map λ(n:Nat)=>iR n)++X6.map λ(n:Nat)=>iR n))<|.head _;let fz:=KW (k:=fr) YV;refine iM ("")<|lw rfl ("")<|Ps (k:=fr) YV λa2 H11 k11 xB t2=>iL t2<|iS (v:=.int (pf fr).2) rfl ?_;let e11:=k11 _ _ WV iN;let aa2:=Sl.trans<|k11.more λx m=>(iN m).elim;exact lw rfl ("") (sr rfl e11 o10 ("7/(.{&(3F;jl+S[x7jm%#",fz) ("*QLqDZ1fzRv$XN+~ogs~fDKNMR%$K>$SUlpmR<QZmrUpnirh<uI|#_jUMNTf8i(,#",hn,(by assumption),q1,lt,b6,sz,b8,Lb) λH12 aa3 b12 o12 X3 e12=>next (aa2.trans X3) e12 o12 (">w]o&>J.xn|#[U7M0XjAnf/`o_<T|d5aBhtnq&7SY.G{<07'q'q4u1Y,#",b6,sz,b8,Lb,fz,b12))
  let V8:=q4 _ _ Lh lib;refine iM (ak rfl) (iP λe he=>iL (o:=NL lN) (by rw[lV (l9 V8 he)];exact V8)<|iL (lT _ _ _)<|iM (.inr rfl)<|iQ (λc0=>?_) λc0=>fin 256 (q4.new he) (by rw[lV (l9 q5 he)];exact q5) λc=>(c rfl).elim);have c0:lN≠[]:=λe=>by subst e;exact xL c0
  have cl:=jc.mpr c0;let gi:qA (lN.map λ(n:Nat)=>iR n) ((cell:Int) % ((lN.map λ(n:Nat)=>iR n).length:Nat))=aq (.int (lN.getD (cell % lN.length) 0:Nat)):=by rw[cF,<-ki];exact pE<|aO _ cl
  have mm:lN.getD (cell % lN.length) 0∈lN:=by rw[bq,bU<|aO _ cl];exact i7 _
  refine iL (o:=NL lN) (by rw[lV (l9 V8 he)];exact V8) (iM (by rw[cF];exact("Nulqr|P0[$#",cl))<|iL (o:=NL lN) (by rw[lV (l9 V8 he)];exact V8)<|iS gi<|fin _ (q4.new he) (by rw[lV (l9 q5 he)];exact q5) λ_=>s1 _ mm)
 .rintro h' v3 va yG mI ⟨q1,q2,q3,q4,q5⟩;rw[cF]at q1;refine gu λP9 mG=>?_;obtain⟨es,e1,e2,e3⟩:=Sk.keep q4 f0 X9;refine mG ?_;refine iL q5 (iL e1<|iM (ak rfl)<|iP λe he=>iL (o:=.zd es) (by rw[lV (l9 e1 he)];exact e1) ?_);let bb:upd h' e (.list []) b=aq (NL mI):=by rw[lV (l9 q5 he)];exact q5
  exact X7 (PU e2 (lY.refl.new he) (lT _ _ _) 256) bb ("'lQkh?fzn?E',4qMCji-y]8_g(M$rY&#",hn,cl,q1) q3 λH' mI l o k e=>h H' mI ("))e[fK{U%wm][h3h|1+RV]uAV'#",q1,l) o ((q4.new he).trans k) e
end
structure Ke(H0 H:AH)(b c li di lc dc:bp)(cs lN nO l1 l2:List Nat):Prop where
 hc:H c=aq (NL cs)
 cl:cs.length<=100
 bc:b≠c
 Lh:H li=aq (NL lN)
 QV:b≠li
 PI:lN.length<=100
 NI:H di=aq (NL nO)
 QW:b≠di
 Sj:nO.length<=100
 Sk:p7 H0 H lc l1
 QN:p7 H0 H dc l2
 X8:H0 b≠aI
 X9:H0 lc=aI
 YT:H0 dc=aI
 s1:∀x∈lN,0<l1.getD x 0/\x<=285
 s2:∀x∈nO,0<l2.getD x 0/\x<=29
theorem vc{a b:bp}(h:b≠a):a∉[b]:=λm=>h (aH.mp m).symm
theorem Ke.keep{H0 H H':AH}{b c li di lc dc:bp}{cs lN nO l1 l2:List Nat}(d:Ke H0 H b c li di lc dc cs lN nO l1 l2)(k:lY [b] H H'):Ke H0 H' b c li di lc dc cs lN nO l1 l2:=
 let f0:∀x∈[b],H0 x≠aI:=λx m=>by rw[aH.mp m];exact d.X8
 {d with hc:=k _ _ d.hc<|vc d.bc,Lh:=k _ _ d.Lh<|vc d.QV,NI:=k _ _ d.NI<|vc d.QW,Sk:=d.Sk.keep k f0 d.X9,QN:=d.QN.keep k f0 d.YT}
theorem Sm{α:Type}{xs:List α}{lo hi:Option Int}{i:Nat}{x:α}(h:(mK xs lo hi)[i]?=aq x):x∈xs:=iX<|iZ<|bR h
section
variable{H H0:AH}{Q:V->AH->Prop}{E:AH->Prop}
theorem PV{b c li di lc dc a1 a2 oc:bp}{lL cs lN nO l1 l2 own:List Nat}{lM:Int}{v3 v4 v11 va zY yF yG:Option V}(d:Ke H0 H b c li di lc dc cs lN nO l1 l2)
  (hb:H b=aq (NL lL))(h2:sV lL)(hn:lL.length<=100200)(wR:H a1=aq (NL l1))(xB:H a2=aq (NL l2))(b1:b≠a1)(b2:b≠a2)(n1:l1.length<=300)(n2:l2.length<=300)(VT:p7 H0 H oc own)(h0c:H0 oc=aI)
  (h:∀H' mI,mI.length<=lL.length+20000->sV mI->lY [b] H H'->H' b=aq (NL mI)->Q .none H'):
  (w7).ev (DW b c li di lc dc (aq<|.int lM) v3 v4 (aq<|.ref a1) (aq<|.ref a2) v11 va (aq<|.ref oc) zY yF yG) H E (λ_ H=>Q .none H) (λ_ _=>False) Q:=by
 let f0:∀x∈[b],H0 x≠aI:=λx m=>by rw[aH.mp m];exact d.X8
 refine iL wR (iL xB<|iM (by rw[cF,cF];exact("$'tO;)a)?g9#|b]2atGm]o%#",n1,n2))<|iP λa3 ha3=>?_);let e3:=yA H a3 l1 l2;refine lw rfl ("") (Sf e3 (by rw[cz];exact(":Roh1]xYkEita,bXy:q%#",n1,n2)) λr H1 ts hr k1 hr1 t1 tn=>?_);rw[cz]at tn;let kk1:lY [b] H H1:=(lY.refl.new ha3).trans (k1.more λx m=>(iN m).elim);have PW:=k1 _ _ (by rw[lV (l9 hb ha3)];exact hb) iN;refine iM ("")<|iM ("")<|iM ("")<|iL hr1<|iP λw hw=>iL (lT _ _ _) ?_;have Yc:upd H1 w (.list (mK (sL ts) (aq<|lM/13 % 7/6) aI)) b=aq (NL lL):=by rw[lV (l9 PW hw)];exact PW
 have K8:=kk1.new (o:=.list (mK (sL ts) (aq<|lM/13 % 7/6) aI)) hw;let YQ:=lT H1 w<|.list (mK (sL ts) (aq<|lM/13 % 7/6) aI);have t2:∀t∈ts,t.1≠b/\upd H1 w (.list (mK (sL ts) (aq<|lM/13 % 7/6) aI)) t.1=aq (.tup [.int t.2.1,.int t.2.2.1,.int (t.2.2.2:Nat)])/\t.2.2.2<=7:=λt m=>by let e1:=(t1 t m).1;let e2:=(t1 t m).2;exact⟨λe=>by(rw[e,PW]at e1;cases e1),by rw[lV (l9 e1 hw)];exact e1,e2⟩
 let bw:b≠w:=l9 PW hw;have wl:(mK (sL ts) (aq<|lM/13 % 7/6) aI).length<=600:=gq (oq _ _ _) (by unfold sL;rw[cF];exact("$Q`;nC[]cCLZIyfc]Mwaav~&#",n1,n2,tn));revert Yc K8 YQ t2;generalize upd H1 w (.list (mK (sL ts) (aq<|lM/13 % 7/6) aI))=H2;intro Yc K8 YQ t2;refine sG.tl [Option V,Option V,Option V,List Nat] (λ_ va zY yF _=>DW b c li di lc dc (aq<|.int lM) v3 v4 (aq<|.ref a1) (aq<|.ref a2) v11 va (aq<|.ref oc) zY yF yG) (λi _ _ _ mI h=>A5 (mI.length<=lL.length+22*i) (i<=(mK (sL ts) (aq<|lM/13 % 7/6) aI).length) (sV mI) (lY [b] H2 h)<|h b=aq (NL mI)) ⟨va,zY,yF,lL,⟨jz _ _,aR _,h2,.refl,Yc⟩,rfl⟩ ?_ ?_ ?_
 .intro i h va zY yF mI jj;let q1:=jj.1;let q2:=jj.2;let q3:=jj.3;let q4:=jj.4;let q5:=jj.5;exact q4 _ _ YQ<|vc bw
 .rintro i h x K hx hK va zY yF mI ⟨q1,q2,q3,q4,q5⟩;have il:=(bZ.mp hx).1;have mx:=Sm hx;unfold sL at mx;obtain⟨t,mt,rfl⟩:=ef.mp mx;let tb:=(t2 t mt).1;let te:=(t2 t mt).2.1;let t7:=(t2 t mt).2.2;let te:=q4 _ _ te<|vc tb.symm;refine gu λP9 mG=>?_;obtain⟨es,z1,z2,z3⟩:=(VT.keep (K8.trans q4) f0 h0c);refine mG ?_;refine iL te (iL q5<|iL z1<|iM (ak rfl)<|iP λe he=>iL (o:=.zd es) (by rw[lV (l9 z1 he)];exact z1) ?_);let bb:upd h e (.list []) b=aq (NL mI):=by rw[lV (l9 q5 he)];exact q5
  refine gu λP9 mG=>?_;obtain⟨r,bs,er,r1,r2,r3⟩:=PU z2 (lY.refl.new he) (lT _ _ _) t.2.1;refine mG ?_
  delta Oz
  dsimp only;rw[er];refine iL bb (iL r1<|iM (by rw[cF,cF];exact("2vP}OpxlZ3<IkpJ+|XcHaLJvPF4)PYZETQuv&G(#",hn,wl,q1,il,r2)) ?_);have e6:=yA (upd h e<|.list []) b mI bs;have o6:=q3.app r3;have b6:(mI++bs).length<=mI.length+15:=by rw[cz];exact("C5M/3A=W~i~T%#",r2)
  let k6:=(q4.new (o:=.list []) he).upd (o:=.list ((mI.map λ(n:Nat)=>iR n)++bs.map λ(n:Nat)=>iR n)) (.head _);exact lw rfl ("")<|sr rfl e6 o6 ("(JP`<rHFI$#",t7) ("Pg+GuFG4`8;kUQC9;904&_h`=ugm,Im^RZ>(K(#",hn,wl,q1,il,b6) λH7 PY b7 o7 k7 e7=>hK _ _ _ _ PY ⟨(")?;H.#OLy$;=ETxk7PCp2z8;o{Hn~z])#",q1,t7,b6,b7),il,o7,k6.trans k7,e7⟩
 .rintro h' va zY yF mI ⟨q1,q2,q3,q4,q5⟩;have k9:=K8.trans q4;let d9:=d.keep k9;have cl:=d.cl;exact Nk q5 q3 ("p*Y::)LPK-'rev9$o`}iM}u/cdT[&#",hn,wl,q1) d9.hc cl d9.bc d9.Lh d9.QV d9.PI d9.NI d9.QW d9.Sj d9.Sk d9.QN d9.X8 d9.X9 d9.YT d9.s1 d9.s2 λH' Vy l'' o k e=>h H' Vy ("$;0$&l{g,A)JB'NUL[hwqgHb2.:u)h5Rf>v2}XM`(#",wl,q1,cl,l'') o (k9.trans k) e
end
theorem p7.base{H0 H1 H2:AH}{b d:bp}{lU:List Nat}{o:AO}(k:lY [b] H0 H1)(hb:H1 b=aq o)(h:p7 H1 H2 d lU):p7 H0 H2 d lU:=by obtain⟨es,h1,h2,h3⟩:=h;refine⟨es,h1,λz x e=>?_,h3⟩;obtain⟨r,bs,rfl,r0,r1⟩:=h2 z x e;exact⟨r,bs,rfl,k.nn hb r0,r1⟩
section
variable{H H0:AH}{Q:V->AH->Prop}{E:AH->Prop}
theorem Sn{b c li di lc dc a1 a2 ow:bp}{lL cs lN nO l1 l2 own:List Nat}{lM:Int}{v3 v4 va F7 zY yF yG:Option V}(d:Ke H0 H b c li di lc dc cs lN nO l1 l2)(k0:lY [b] H0 H)
  (hb:H b=aq (NL lL))(h2:sV lL)(hn:lL.length<=100100)(wR:H a1=aq (NL l1))(xB:H a2=aq (NL l2))(b1:b≠a1)(b2:b≠a2)(n1:l1.length<=300)(n2:l2.length<=300)(hw:H ow=aq (NL own))(bw:b≠ow)(ol:own.length=19)(ob:∀x∈own,x<=15)
  (h:∀H' mI,mI.length<=lL.length+20057->sV mI->lY [b] H H'->H' b=aq (NL mI)->Q .none H'):
  (sT).ev (DW b c li di lc dc (aq<|.int lM) v3 v4 (aq<|.ref a1) (aq<|.ref a2) (aq<|.ref ow) va F7 zY yF yG) H E (λ_ H=>Q .none H) (λ_ _=>False) Q:=by
 refine iM (ak rfl)<|iP λt ht=>iL (lT _ _ _) ?_;have bt:b≠t:=l9 hb ht;refine sG.tl [Option V,List Nat] (λ_ va _=>DW b c li di lc dc (aq<|.int lM) v3 v4 (aq<|.ref a1) (aq<|.ref a2) (aq<|.ref ow) va F7 zY yF yG) (λi _ mI h=>A5 (mI.length=lL.length+3*i) (i<=19) (sV mI) (lY [b] (upd H t<|.tup (vQ.map λ(n:Nat)=>iR n)) h)<|h b=aq (NL mI)) ⟨va,lL,⟨rfl,by decide,h2,.refl,by rw[lV bt];exact hb⟩,rfl⟩ ?_ ?_ ?_
 .intro i h va mI jj;let q1:=jj.1;let q2:=jj.2;let q3:=jj.3;let q4:=jj.4;let q5:=jj.5;exact q4 _ _ (lT _ _ _)<|vc bt
 .rintro i h x K hx hK va mI ⟨q1,q2,q3,q4,q5⟩;let hx:(vQ.map λ(n:Nat)=>iR n)[i]?=aq x:=hx;obtain⟨lt,rfl⟩:=qC hx;have ow1:=q4 _ _ (by rw[lV (l9 hw ht)];exact hw)<|vc bw;refine iL ow1 (iS (pE (by rw[ol];exact FG i))<|lw rfl ("")<|sr (m:=3) rfl q5 q3 ("") ("$&2KD_mEjL/U<tqRi'DVMqh&K8A&#",hn,q1,q2) λH7 PY b7 o7 k7 e7=>hK _ _ PY ⟨("io5l$AFS'Z+e*vPLEj&n3M8:ga'#",q1,b7),lt,o7,q4.trans k7,e7⟩)
 .rintro h1 va mI ⟨q1,q2,q3,q4,q5⟩;let q1:mI.length=lL.length+3*19:=q1;have k1:lY [b] H h1:=(lY.refl.new ht).trans q4;let ow1:=k1 _ _ hw<|vc bw;refine lw rfl ("") (CR ow1 (by rw[ol];decide) ob λoc H2 VT k2 c2=>?_);have YW:lY [b] H H2:=k1.trans<|k2.more λx m=>(iN m).elim;let Yc:=k2 _ _ q5 iN;refine PV (d.keep YW) Yc q3 ("$(%mIs8*V_;%5f?+Z']l9o%#",hn,q1) (YW _ _ wR<|vc b1) (YW _ _ xB<|vc b2) b1 b2 n1 n2 (c2.base (k0.trans k1) q5) ((k0.trans k1).nn q5 VT) λH' yB l o k e=>h H' yB ("F/jt^pD9^dzLM1}QnZKmti12&#",q1,l) o (YW.trans k) e
end
def Kf:List Nat:=iT 13 4++iT 6 5
section
variable{H H0:AH}{Q:V->AH->Prop}{E:AH->Prop}
theorem PZ{b c li di lc dc a1 a2:bp}{lL cs lN nO l1 l2:List Nat}{lM:Int}{v3 v4 v11 va F7 zY yF yG:Option V}(d:Ke H0 H b c li di lc dc cs lN nO l1 l2)(k0:lY [b] H0 H)
  (hb:H b=aq (NL lL))(h2:sV lL)(hn:lL.length<=100100)(wR:H a1=aq (NL l1))(xB:H a2=aq (NL l2))(b1:b≠a1)(b2:b≠a2)(n1:l1.length<=300)(n2:l2.length<=300)
  (h:∀H' mI,mI.length<=lL.length+20057->sV mI->lY [b] H H'->H' b=aq (NL mI)->Q .none H'):
  (w8).ev (DW b c li di lc dc (aq<|.int lM) v3 v4 (aq<|.ref a1) (aq<|.ref a2) v11 va F7 zY yF yG) H E (λ_ H=>Q .none H) (λ_ _=>False) Q:=by
 refine iM (ak rfl) (iP λx hx=>iL (lT _ _ _)<|iM ⟨by decide,ak rfl⟩<|iP λy hy=>?_);refine iM (ak rfl) (iP λz hz=>iL (lT _ _ _)<|iM ⟨by decide,ak rfl⟩<|iP λw hw=>?_);have yz:=l9 (lT _ y _) hz;have yw:=l9 (H:=upd _ z _) (a:=y) (by rw[lV yz];exact lT _ y _) hw;refine iL (o:=.list (qa (jI 13) [.int 4])) (by rw[lV yw,lV yz];exact lT _ y _)<|iL (lT _ _ _)<|iM (ak rfl)<|iP λow how=>?_;have fin:∀{ow:bp}{H':AH}{own:List Nat},lY [b] H H'->H' ow=aq (NL own)->H' b=aq (NL lL)->b≠ow->own.length=19->(∀x∈own,x<=15)->
   (sT).ev (DW b c li di lc dc (aq<|.int lM) v3 v4 (aq<|.ref a1) (aq<|.ref a2) (aq<|.ref ow) va F7 zY yF yG) H' E (λ_ H=>Q .none H) (λ_ _=>False) Q:=λ{ow H' own} k q qb bw l o=>
  Sn (d.keep k) (k0.trans k) qb h2 hn (k _ _ wR<|vc b1) (k _ _ xB<|vc b2) b1 b2 n1 n2 q bw l o λH2 yB l2 o2 k2 e2=>h H2 yB l2 o2 (k.trans k2) e2
 have nb:b∉([]:List bp):=iN;have K4:lY [] H (upd (upd (upd (upd H x<|.list [.int 4]) y<|.list (qa (jI 13) [.int 4])) z<|.list [.int 5]) w<|.list (qa (jI 6) [.int 5])):=(((lY.refl.new hx).new hy).new hz).new hw;have KE:=K4.new (o:=NL Kf) how;have K:=KE.more (ns:=[b]) λx m=>(iN m).elim;have qb:=KE _ _ hb nb;have qo:=lT (upd (upd (upd (upd H x<|.list [.int 4]) y<|.list (qa (jI 13) [.int 4])) z<|.list [.int 5]) w<|.list (qa (jI 6) [.int 5])) ow<|NL Kf;have bo:b≠ow:=l9 (K4 _ _ hb nb) how;refine iM ("")<|iM ("")<|iQ (λ_=>?_) λ_=>fin K qo qb bo rfl ("");refine iL qo (iM rfl<|lu [Option V,Option V,Option V,List Nat] (λ_ _ x0 x1 x2 _=>[x0,x1,x2,aq<|.int lM]) (λD j _ _ _ os h'=>A5 (lY [] (upd (upd (upd (upd (upd H x<|.list [.int 4]) y<|.list (qa (jI 13) [.int 4])) z<|.list [.int 5]) w<|.list (qa (jI 6) [.int 5])) ow<|NL Kf) h') (h' D=aq (NL os)) (os.length=j) (j<=19) (∀x∈os,x<=15)) (λ_ hD=>⟨aI,aI,aI,[],⟨lY.refl.new hD,lT _ _ _,rfl,by decide,λ_ m=>(by cases m)⟩,rfl⟩) ?_ ?_ ?_)
 .rintro D hD i h2 x0 x1 x2 os ⟨k2,_,_,_,_⟩;exact k2 _ _ qo iN
 .rintro D hD i h2 K' Lg x0 x1 x2 os ⟨k2,c1,c2,c3,c4⟩ x tt hx ht;have hx:(Kf.map λ(n:Nat)=>iR n)[i]?=aq x:=hx;obtain⟨lt,rfl⟩:=qC hx;have i19:i<19:=lt;have Vz:Kf.getD i 0<=15:=by
   rw[bq,bU lt];have:∀x∈Kf,x<=15:=by decide
   exact this _<|i7 _
  revert Vz hx;generalize Kf.getD i 0=ov;intro hx Vz;have Dt:=l9 c1 ht;have fin2:∀{h3:AH}{z:Int}(v:Nat),z=(v:Nat)->v<=15->lY [] h2 h3->h3 D=aq (NL os)->Oy D (λ_ h=>K' [x0,aq<|.int i,aq<|.int (ov:Nat),aq<|.int lM] h) [.int z] h3:=λ{h3 z} v hz yF k3 d3=>by
   subst hz;refine iL d3 (iM (by rw[cF];exact("f76SRmDA8VBr2b|T%#",c2,i19))<|Lg _ _ _ _ (os++[v]) ⟨(k2.trans k3).oY hD,?_,by rw[cz,c2];rfl,i19,?_⟩)
   .rw[lT];exact congrArg aq<|oZ os [v]
   .intro y my;rcases aE.mp my with m|m
    .exact c4 y m
    .rw[aH.mp m];exact yF
  have kt:lY [] h2 (upd h2 tt<|.tup [.int i,.int (ov:Nat)]):=lY.refl.new ht;have dt:upd h2 tt (.tup [.int i,.int (ov:Nat)]) D=aq (NL os):=by rw[lV Dt];exact c1
  refine iL (lT _ _ _)<|lC<|iM ("")<|iM ("")<|iQ (λ_=>iM ⟨("*U4(.5h&$#"),("RMWe[f=^4AVME,ewXF;GG$#",i19)⟩<|iM ("") ?_) λ_=>fin2 ov rfl Vz kt dt;generalize lM/_=wq;exact fin2 ((((ov:Nat):Int)+wq) % 8).toNat ("&Hl~+jf|i>9UH,l7$dl{Dg%&",by exact jl rfl rfl rfl,("%")) ("%<vN|I8Rq>]?8`fyKNV%&",by exact jl rfl rfl rfl,rfl) kt dt
 .rintro D hD h2 x0 x1 x2 os ⟨k2,c1,c2,c3,c4⟩;have kk:=KE.trans k2;have c2:os.length=19:=c2;have bD:b≠D:=l9 qb hD;exact fin (kk.more λx m=>(iN m).elim) c1 (kk _ _ hb nb) bD c2 c4
end
section
variable{H:AH}{Q:V->AH->Prop}{E:AH->Prop}
theorem Nl{b c li di a1 a2:bp}{lL cs lN nO l1 l2:List Nat}{lM:Int}{v3 v4 v9 v10 v11 va F7 zY yF yG:Option V}
  (hb:H b=aq (NL lL))(h2:sV lL)(hn:lL.length<=100000)(hc:H c=aq (NL cs))(cl:cs.length<=100)(bc:b≠c)
  (Lh:H li=aq (NL lN))(QV:b≠li)(PI:lN.length<=100)(NI:H di=aq (NL nO))(QW:b≠di)(Sj:nO.length<=100)
  (wR:H a1=aq (NL l1))(xB:H a2=aq (NL l2))(b1:b≠a1)(b2:b≠a2)(n1:l1.length<=300)(n2:l2.length<=300)(o1:∀x∈l1,x<=15)(o2:∀x∈l2,x<=15)
  (s1:∀x∈lN,0<l1.getD x 0/\x<=285)(s2:∀x∈nO,0<l2.getD x 0/\x<=29)
  (h:∀H' mI,mI.length<=lL.length+20071->sV mI->lY [b] H H'->H' b=aq (NL mI)->Q .none H'):
  (w9).ev [aq (.ref b),aq<|.ref c,aq<|.int lM,v3,v4,aq<|.ref li,aq<|.ref di,aq<|.ref a1,aq<|.ref a2,v9,v10,v11,va,F7,zY,yF,yG,aI,aI,aI,aI,aI,aI,aI,aI,aI,aI,aI] H E (λ_ H=>Q .none H) (λ_ _=>False) Q:=by
 have nb:∀{a:bp},a∉([]:List bp):=iN;refine lw rfl ("")<|CR wR ("d20v^we4~`-~$#",n1) o1 λlc H1 Sk k1 c1=>?_;refine lw rfl ("")<|CR (k1 _ _ xB nb) ("d20v^we4~`-~$#",n2) o2 λdc H2 QN k2 c2=>?_;refine iM (ak rfl)<|iP λt ht=>iL (lT _ _ _) ?_;have X3:=k1.trans k2;have kk:lY [] H (upd H2 t<|.tup [.ref lc,.ref dc]):=X3.new ht;have c1':p7 H (upd H2 t<|.tup [.ref lc,.ref dc]) lc l1:=c1.keep (ms:=[]) (k2.new ht) (λx m=>(iN m).elim) Sk;have c2':p7 H (upd H2 t<|.tup [.ref lc,.ref dc]) dc l2:=(c2.keep (ms:=[]) (lY.refl.new ht) (λx m=>(iN m).elim) QN).base (b:=b) (k1.more λx m=>(iN m).elim) (k1 _ _ hb nb);have d:Ke H (upd H2 t<|.tup [.ref lc,.ref dc]) b c li di lc dc cs lN nO l1 l2:=⟨kk _ _ hc nb,cl,bc,kk _ _ Lh nb,QV,PI,kk _ _ NI nb,QW,Sj,c1',c2',(λe=>by have e:=hb▸e;exact rQ e),Sk,k1.F6 QN,s1,s2⟩;have hb3:=kk _ _ hb nb;have YX:=kk _ _ wR nb;have YY:=kk _ _ xB nb;revert d hb3 YX YY kk;generalize upd H2 t (.tup [.ref lc,.ref dc])=H3;intro kk d hb3 YX YY;have YZ:lY [b] H H3:=kk.more λx m=>(iN m).elim;refine iL YX<|lw rfl ("")<|sr (m:=5) rfl hb3 h2 ("") ("9d7XtT+&(v~[>nG$#",hn) λH4 PT b4 o4 k4 e4=>?_;refine iL (k4 _ _ YY<|vc b2)<|lw rfl ("")<|sr (m:=5) rfl e4 o4 ("") ("EL4c^VZ-y^R+fS$P2Bmg%#",hn,b4) λH5 zX b5 o5 k5 e5=>?_;refine lw rfl ("")<|sr (m:=4) rfl e5 o5 ("") ("TmhQo|o-=p)L-X:xPu1$IaUoO&#",hn,b4,b5) λH6 TF b6 o6 k6 e6=>?_;have Yd:=(k4.trans k5).trans k6;exact PZ (d.keep Yd) (YZ.trans Yd) e6 o6 ("+tC#fyRKY%(}wq,Imht)]L54t700Ba'#",hn,b4,b5,b6) (Yd _ _ YX<|vc b1) (Yd _ _ YY<|vc b2) b1 b2 n1 n2 λH' mI l o k e=>h H' mI ("&4J-icMxQm(i~d;yOS|[gEb>i.,qUKa4W(#",b4,b5,b6,l) o ((YZ.trans Yd).trans k) e
end
theorem FL:∀{l:List Int}{x:Int},x∈l->x<=yJ l
 |[a],x,m=>by rw[aH.mp m];exact Int.le_refl _
 |a::b::r,x,m=>by
  show x<=max a (yJ<|b::r);rcases aA.mp m with e|m
  .rw[e];exact Int.le_max_left _ _
  .exact gR (FL m)<|Int.le_max_right _ _
theorem Li{B:Int}:∀{l:List Int},l≠[]->(∀x∈l,x<=B)->yJ l<=B
 |[],h,_=>(h rfl).elim
 |[a],_,h=>h a (.head _)
 |a::b::r,_,h=>by show max a (yJ<|b::r)<=B;have h1:=h a<|.head _;have h2:=Li (l:=b::r) (λe=>by cases e) λx m=>h x<|.tail _ m;exact Int.max_le.mpr ⟨h1,h2⟩
theorem Lj{xs:List Int}{k:Int}(h0:0<=k)(h1:k<xs.length):∃w,qA (xs.map iR) k=aq (.int w):=by unfold qA;rw[mZ h0];refine bF cj▸?_;refine bF (bU (("t~1-Q;/p{M|M;}r]c%$",h0,h1,rfl):k.toNat<xs.length))▸?_;exact⟨_,rfl⟩
theorem Ic{d:bp}{l:List Nat}{te:NA}{tv:Loc->AH->(AH->Prop)->(Bool->AH->Prop)->Prop}{el:Loc->AH->(AH->Prop)->(V->AH->Prop)->Prop}{H:AH}{Q:V->AH->Prop}{o a:Option V}
  (h1:∀{x:V}{a:Option V}{h:AH}{K:Loc->AH->Prop},K [o,aq x] h->te x [o,a] h E0 K)
  (h2:∀{l:Loc}{h:AH}{T:Bool->AH->Prop},T af h->tv l h E0 T)
  (h3:∀{n:Int}{h:AH}{Q:V->AH->Prop},Q (.int (n+1)) h->el [o,aq<|.int n] h E0 Q)
  (hd:H d=aq (NL l))(hn:l.length<=1000)(hQ:∀D,H D=aI->Q (.ref D) (upd H D<|NL<|l.map (·+1))):px (.L d (l.map λ(n:Nat)=>iR n)) te tv el [o,a] H Q:=by
 refine lu [Option V] (λ_ _ a=>[o,a]) (λD i _ h=>h=upd H D (NL<|(l.take i).map (·+1))) (λ_ _=>⟨a,rfl,rfl⟩) ?_ ?_ ?_
 .rintro D hD i h a rfl;show upd H D _ d=_;rw[lV (l9 hd hD)];exact hd
 .rintro D hD i h K hK a rfl x hx;obtain⟨lt,rfl⟩:=qC hx;refine h1<|h2<|lC<|h3<|iL (lT _ _ _)<|iM ?_<|hK _ _ ?_
  .rw[cF,cF,eW];exact("%+a=YOoPc[*tN$D4&LH}8f&#",hn,rfl)
  .rw[uq lt];rw[i6];funext z;unfold upd;by_cases ez:z=D
   .rw[mZ ez];rw[mZ ez];exact congrArg aq<|oZ ((l.take i).map (·+1)) [l.getD i 0+1]
   .rw[mT ez];rw[mT ez];exact bF (mT ez)▸rfl
 .rintro D hD h a rfl;let e:(CM.L d<|l.map λ(n:Nat)=>iR n).len=l.length:=by show(je _ l).length=_;rw[cF]
  rw[e];rw[js];exact hQ D hD
theorem P5{l:List Nat}{k0 B:Nat}(h:∀x∈l,x+1<=B)(h0:k0<=B):∃m:Nat,yJ ((k0::l.map (·+1)).map λ(n:Nat)=>(n:Int))=(m:Nat)/\(∀x∈l,x<m)/\m<=B:=by
 let g0:=FL (l:=(k0::l.map (·+1)).map λ(n:Nat)=>(n:Int)) (x:=(k0:Int))<|.head _;let g1:=Li (B:=(B:Int)) (l:=(k0::l.map (·+1)).map λ(n:Nat)=>(n:Int)) (λe=>by cases e) λx m=>by
  obtain⟨y,my,rfl⟩:=ef.mp m;rcases aA.mp my with e|my
  .rw[e];exact("&nKxCS=0#R%#",h0)
  .obtain⟨z,mz,rfl⟩:=ef.mp my;let:=h z mz;exact("8{#K'f,J+sC}J%#",this)
 refine⟨(yJ<|(k0::l.map (·+1)).map λ(n:Nat)=>(n:Int)).toNat,("&V4f)3I5d3fnXr+-2i%$",g0,rfl),λx m=>?_,("'ynY_7h6.PF>lLB%$",g1,rfl)⟩;let:=FL (l:=(k0::l.map (·+1)).map λ(n:Nat)=>(n:Int)) (x:=((x+1:Nat):Int))<|.tail _ (dP<|dP m);exact("F[gJv/-[Sb0|,Ia^^H%$",this,rfl)
section
variable{H:AH}{Q:V->AH->Prop}{E:AH->Prop}
theorem P6{b c li di:bp}{lL cs lN nO:List Nat}{lM:Int}{v3 v4 v7 v8 v9 v10 v11 va F7 zY yF yG:Option V}
  (hb:H b=aq (NL lL))(h2:sV lL)(hn:lL.length<=100000)(hc:H c=aq (NL cs))(cl:cs.length<=100)(bc:b≠c)
  (Lh:H li=aq (NL lN))(QV:b≠li)(PI:lN.length<=10)(NI:H di=aq (NL nO))(QW:b≠di)(Sj:nO.length<=10)(s1:∀x∈lN,x<=285)(s2:∀x∈nO,x<=29)
  (h:∀H' mI,mI.length<=lL.length+20071->sV mI->lY [b] H H'->H' b=aq (NL mI)->Q .none H'):
  (xb).ev [aq (.ref b),aq<|.ref c,aq<|.int lM,v3,v4,aq<|.ref li,aq<|.ref di,v7,v8,v9,v10,v11,va,F7,zY,yF,yG,aI,aI,aI,aI,aI,aI,aI,aI,aI,aI,aI] H E (λ_ H=>Q .none H) (λ_ _=>False) Q:=by
 let nb:∀{a:bp},a∉([]:List bp):=iN;refine gu λP9 mG=>?_;obtain⟨m1,em1,mx1,mb1⟩:=P5 (l:=lN) (k0:=257) (B:=286) (λx m=>by have:=s1 x m;exact("*vVL=|E]C-1-zK$#",this)) ("");refine mG ?_;refine gu λP9 mG=>?_;obtain⟨m2,em2,mx2,mb2⟩:=P5 (l:=nO) (k0:=1) (B:=30) (λx m=>by have:=s2 x m;exact("$Fn6D1N|=8C$#",this)) ("");refine mG ?_;refine iM (ak rfl)<|iP λu hu=>?_;let k1:=(ly (ms:=[])).new (o:=.list [.int 257]) hu;refine iL (k1 _ _ Lh nb)<|iM rfl<|Ic (λh=>h) (λh=>h) (λh=>h) (k1 _ _ Lh nb) ("%jp7fFn&<^.$#",PI) λD hD=>?_;have k2:=k1.new (o:=NL<|lN.map (·+1)) hD;let uD:=l9 (lT H u<|.list [.int 257]) hD;let u2:upd (upd H u<|.list [.int 257]) D (NL<|lN.map (·+1)) u=aq (.list [.int 257]):=by rw[lV uD];exact lT _ u _
 refine iL u2 (iL (lT _ _ _)<|iM (by show 1+_<=_;rw[cF,cF];exact("%m^i(RzTx:DfV,K$#",PI))<|iP λw hw=>iL (lT _ _ _) ?_);refine jt (qv<|257::lN.map (·+1)) (iM (λe=>by cases e) ?_);let k3:=k2.new (o:=.list ([iR 257]++(lN.map (·+1)).map λ(n:Nat)=>iR n)) hw;refine iM (ak rfl)<|iP λe he=>?_;refine iM ("")<|iM ("")<|iL (lT _ _ _) ?_;obtain⟨w1,ew1⟩:=Lj (xs:=[0,0,0,1,2,3]) (k:=lM/5 % 6) ("63$X#m|mRY{#&",by exact jl rfl rfl rfl) (by show _<(6:Int);exact("8?hi3OX#_Bq#&",by exact jl rfl rfl rfl));let k4:=k3.new (o:=.list [.int 0,.int 0,.int 0,.int 1,.int 2,.int 3]) he;refine iS ew1<|lw rfl ("")<|HX (lH:=m1) em1 (k4 _ _ Lh nb) (k4 _ _ hc nb) mx1 ("d20v^w`,iT~*$#",mb1) PI ("2l<|v}<1&G*l$#",cl) λa1 H1 l1 wR k5 q1 o1=>?_;have kk:=k4.trans k5;have TC:=kk _ _ hc nb;have PW:=kk _ _ hb nb;let aa4:=kk _ _ Lh nb;have So:=kk _ _ NI nb;let b1:b≠a1:=l9 (k4 _ _ hb nb) wR;let YZ:lY [b] H H1:=kk.more λx m=>(iN m).elim;clear k1 k2 k3 k4 k5 hu hD uD u2 hw he ew1 em1 wR;refine iM (ak rfl)<|iP λu hu=>?_;let k1:=(ly (ms:=[])).new (o:=.list [.int 1]) hu;refine iL (k1 _ _ So nb)<|iM rfl<|Ic (λh=>h) (λh=>h) (λh=>h) (k1 _ _ So nb) ("%jp7fFn&<^.$#",Sj) λD hD=>?_;have k2:=k1.new (o:=NL<|nO.map (·+1)) hD;let uD:=l9 (lT H1 u<|.list [.int 1]) hD;let u2:upd (upd H1 u<|.list [.int 1]) D (NL<|nO.map (·+1)) u=aq (.list [.int 1]):=by rw[lV uD];exact lT _ u _
 refine iL u2 (iL (lT _ _ _)<|iM (by show 1+_<=_;rw[cF,cF];exact("%m^i(RzTx:DfV,K$#",Sj))<|iP λw hw=>iL (lT _ _ _) ?_);refine jt (qv<|1::nO.map (·+1)) (iM (λe=>by cases e) ?_);let k3:=k2.new (o:=.list ([iR 1]++(nO.map (·+1)).map λ(n:Nat)=>iR n)) hw;refine iM rfl<|iL (k3 _ _ TC nb)<|iP λrc hrc=>?_;rw[<-kK]at*;let Y0:=k3.new (o:=NL cs.reverse) hrc;let rc1:=lT (upd (upd (upd H1 u<|.list [.int 1]) D<|NL<|nO.map (·+1)) w<|.list ([iR 1]++(nO.map (·+1)).map λ(n:Nat)=>iR n)) rc<|NL cs.reverse;refine iM (ak rfl)<|iP λe he=>?_;refine iM ("")<|iM ("")<|iL (lT _ _ _) ?_;obtain⟨w2,ew2⟩:=Lj (xs:=[0,0,1,2,3]) (k:=lM/7 % 5) ("63$X#m9Bxf-#&",by exact jl rfl rfl rfl) (by show _<(5:Int);exact("8?F<+A5I%%?#&",by exact jl rfl rfl rfl));let k4:=Y0.new (o:=.list [.int 0,.int 0,.int 1,.int 2,.int 3]) he;let rc2:upd (upd (upd (upd (upd H1 u<|.list [.int 1]) D<|NL<|nO.map (·+1)) w<|.list ([iR 1]++(nO.map (·+1)).map λ(n:Nat)=>iR n)) rc<|NL cs.reverse) e (.list [.int 0,.int 0,.int 1,.int 2,.int 3]) rc=aq (NL cs.reverse):=by refine bF (lV<|l9 rc1 he)▸?_;exact rc1
 refine iS ew2 (lw rfl ("")<|HX (lH:=m2) em2 (k4 _ _ So nb) rc2 mx2 ("%jp7fFs0VrC$#",mb2) Sj (by rw[List.length_reverse];exact("2l<|v}<1&G*l$#",cl)) λa2 H2 l2 xB k5 q2 o2=>?_);let K8:=k4.trans k5;let b2:b≠a2:=l9 (k4 _ _ PW nb) xB;refine Nl (K8 _ _ PW nb) h2 hn (K8 _ _ TC nb) cl bc (K8 _ _ aa4 nb) QV ("C*Z'=0'5f2$#",PI) (K8 _ _ So nb) QW ("C*Z'=0'5f2$#",Sj) (K8 _ _ q1 nb) q2 b1 b2 (by rw[o1.l];exact("C=.].T~n?44W$#",mb1)) (by rw[o2.l];exact("$Ei#|RhEHkA$#",mb2)) (λx m=>gq (o1.b x m) ("")) (λx m=>gq (o2.b x m) ("")) (λx m=>⟨o1.s x m,s1 x m⟩) (λx m=>⟨o2.s x m,s2 x m⟩) λH' mI l o k e=>h H' mI l o ((YZ.trans<|K8.more λx m=>(iN m).elim).trans k) e
end
theorem sU(l:List Nat)(lo hi:Option Int):mK (l.map λ(n:Nat)=>iR n) lo hi=(mK l lo hi).map λ(n:Nat)=>iR n:=by unfold mK;rw[cF,List.map_take,kc]
section
variable{H:AH}{Q:V->AH->Prop}{E:AH->Prop}
theorem P7{b c sm:bp}{lL cs some_:List Nat}{lM:Int}{v3 v5 v6 v7 v8 v9 v10 v11 va F7 zY yF yG:Option V}
  (hb:H b=aq (NL lL))(h2:sV lL)(hn:lL.length<=100000)(hc:H c=aq (NL cs))(cl:cs.length<=100)(bc:b≠c)
  (V9:H sm=aq (NL some_))(sml:some_.length<=8)(sb:∀x∈some_,x<=285)
  (h:∀H' mI,mI.length<=lL.length+20071->sV mI->lY [b] H H'->H' b=aq (NL mI)->Q .none H'):
  (xc).ev [aq (.ref b),aq<|.ref c,aq<|.int lM,v3,aq<|.ref sm,v5,v6,v7,v8,v9,v10,v11,va,F7,zY,yF,yG,aI,aI,aI,aI,aI,aI,aI,aI,aI,aI,aI] H E (λ_ H=>Q .none H) (λ_ _=>False) Q:=by
 let nb:∀{a:bp},a∉([]:List bp):=iN;refine iL V9 (iM rfl<|lu [Option V,Option V,Option V,List Nat] (λ_ _ x0 x1 x2 _=>[x0,x1,x2,aq<|.ref sm]) (λD j _ _ _ os h'=>A5 (lY [] H h') (h' D=aq (NL os)) (os.length<=j) (j<=8) (∀x∈os,x<=285)) (λ_ hD=>⟨aI,aI,aI,[],⟨lY.refl.new hD,lT _ _ _,dg _,by decide,λ_ m=>(by cases m)⟩,rfl⟩) ?_ ?_ ?_)
 .intro D hD i h2 x0 x1 x2 os jj;let k2:=jj.1;exact k2 _ _ V9 nb
 .rintro D hD i h2 K' Lg x0 x1 x2 os ⟨k2,c1,c2,c3,c4⟩ x tt hx ht;obtain⟨lt,rfl⟩:=qC hx;have Vz:some_.getD i 0<=285:=by
   rw[bq,bU lt];exact sb _<|i7 _
  revert Vz hx;generalize some_.getD i 0=ov;intro hx Vz;let kt:lY [] h2 (upd h2 tt<|.tup [.int i,.int (ov:Nat)]):=lY.refl.new ht;let st:=(k2.trans kt) _ _ V9 nb;refine iL (lT _ _ _)<|iL st<|iP λe he=>iL (lT _ _ _) ?_;rw[sU];have ke:=kt.new (o:=NL<|mK some_ aI<|aq ((i:Nat):Int)) he;let de:=ke _ _ c1 nb;refine jt (qv _) (iQ (λ_=>iL de<|iM (by rw[cF];exact("f76SRmDA4R5~D?5R%#",c2,c3))<|Lg _ _ _ _ (os++[ov]) ⟨(k2.trans ke).oY hD,?_,?_,("+'OS^>xucpUA5g%#",sml,lt),?_⟩) λ_=>Lg _ _ _ _ os ⟨k2.trans ke,de,("$D-P6o),4.;%#",c2),("+'OS^>xucpUA5g%#",sml,lt),c4⟩)
  .rw[lT];exact congrArg aq<|oZ os [ov]
  .rw[cz];show _+1<=_;exact id<|j9 0x14848430900601000022 ("$") c2
  .intro y my;rcases aE.mp my with m|m
   .exact c4 y m
   .rw[aH.mp m];exact Vz
 .let YG:=h2;rintro D hD h2 x0 x1 x2 os ⟨k2,c1,c2,c3,c4⟩;refine iM ("")<|iL c1<|iP λs hs=>?_;let k3:=k2.new (o:=.list (mK (os.map λ(n:Nat)=>iR n) aI<|aq<|lM % 8)) hs;refine iM (ak rfl)<|iP λt ht=>iM ("")<|iM ("") ?_;obtain⟨n,en,n1⟩:∃n:Nat,(if decide (0<lM/8 % 9)=af then(1:Int)else 0)=(n:Nat)/\n<=1:=by
   by_cases q:decide (0<lM/8 % 9)=af
   .exact⟨1,by rw[mZ q];rfl,by decide⟩
   .exact⟨0,by rw[mT q];rfl,by decide⟩
  let s3:upd (upd h2 s<|.list (mK (os.map λ(n:Nat)=>iR n) aI<|aq<|lM % 8)) t (.list [.int 256]) s=aq (NL<|mK os aI<|aq<|lM % 8):=by rw[lV (l9 (lT _ s _) ht),lT,sU];rfl
  have sl:(mK os aI<|aq<|lM % 8).length<=8:=gq (oq _ _ _) (gq c2 (by show(some_.map λ(n:Nat)=>iR n).length<=8;rw[cF];exact sml))
  have sm2:∀x∈mK os aI (aq<|lM % 8),x<=285:=λx m=>c4 x<|iX<|iZ m;let k4:=k3.new (o:=.list [.int 256]) ht;refine Bf (n:=n) (l:=[256]) en ("%jp7fFkg1<S$#",n1) ("") ("%jp7fFmS:-,$#",sl) (lT _ _ _) s3 λli H5 k5 Lh q5=>?_;let kk:=k4.trans k5;let QV:b≠li:=l9 (k4 _ _ hb nb) Lh;let hb5:=kk _ _ hb nb;refine iM (ak rfl)<|iP λd0 T0=>iM ("")<|iM ("")<|iL (lT _ _ _)<|iP λdi NI=>?_;let d5:∀l:List V,l=[0,1,2,3,4].map (λ(n:Nat)=>iR n)->mK l aI (aq<|lM/3 % 6)=(mK [0,1,2,3,4] aI<|aq<|lM/3 % 6).map λ(n:Nat)=>iR n:=λl e=>by rw[e,sU]
  let d6:=d5 [.int 0,.int 1,.int 2,.int 3,.int 4] rfl;let di1:upd (upd H5 d0<|.list [.int 0,.int 1,.int 2,.int 3,.int 4]) di (.list (mK [.int 0,.int 1,.int 2,.int 3,.int 4] aI<|aq<|lM/3 % 6)) di=aq (NL<|mK [0,1,2,3,4] aI<|aq<|lM/3 % 6):=by rw[lT,d6];rfl
  let k6:=(ly (ms:=[]) (H:=H5)).new (o:=.list [.int 0,.int 1,.int 2,.int 3,.int 4]) T0|>.new (o:=.list (mK [.int 0,.int 1,.int 2,.int 3,.int 4] aI<|aq<|lM/3 % 6)) NI;let QW:b≠di:=l9 (by rw[lV (l9 hb5 T0)];exact hb5) NI;let V4:=kk.trans k6;refine P6 (V4 _ _ hb nb) YG hn (V4 _ _ hc nb) cl bc (k6 _ _ q5 nb) QV ?_ di1 QW ?_ ?_ ?_ λH' mI l o k e=>h H' mI l o ((V4.more λx m=>(iN m).elim).trans k) e
  .rw[cz,pW];show _+n*1<=_;exact("%&9-JK&|'ytXO8`]%#",n1,sl)
  .exact gq (oq _ _ _) ("")
  .intro x m;rcases aE.mp m with m|m
   .exact sm2 x m
   .rw[aH.mp (rD m)];decide
  .intro x m;let m:x∈[0,1,2,3,4]:=iX<|iZ m;let:∀x∈[0,1,2,3,4],x<=29:=by decide
   exact this x m
theorem Kg{b c:bp}{lL cs:List Nat}(hb:H b=aq (NL lL))(h2:sV lL)(hn:lL.length<=100000)(hc:H c=aq (NL cs))(cl:cs.length<=100)(bc:b≠c)
  (h:∀H' mI,mI.length<=lL.length+20071->sV mI->lY [b] H H'->H' b=aq (NL mI)->Q .none H'):mH 3 (.ref 375) [.ref b,.ref c] H Q E:=by
 let nb:∀{a:bp},a∉([]:List bp):=iN;refine nS (n:=2) DT vP .nil rfl ?_;refine iL hc<|jt (qv cs)<|iM (aQ 2)<|iL hc<|iP λs hs=>iL (lT _ _ _)<|iM rfl ?_;rw[sU];have k1:=(ly (ms:=[]) (H:=H)).new (o:=NL<|mK cs aI<|aq 2) hs;refine lu [Option V,Option V,List Nat] (λ_ _ x0 x1 _=>[x0,x1]) (λD j _ _ os h'=>A5 (lY [] (upd H s<|NL<|mK cs aI<|aq 2) h') (h' D=aq (NL os)) (os.length=j) (j<=2) (∀x∈os,x<=285)) (λ_ hD=>⟨aI,aI,[],⟨lY.refl.new hD,lT _ _ _,rfl,by decide,λ_ m=>(by cases m)⟩,rfl⟩) ?_ ?_ ?_
 .intro D hD i h2 x0 x1 os jj;let k2:=jj.1;exact k2 _ _ (lT _ _ _) nb
 .rintro D hD i h2 K' Lg x0 x1 os ⟨k2,c1,c2,c3,c4⟩ x hx;obtain⟨lt,rfl⟩:=qC hx;let l2:(mK cs aI<|aq 2).length<=2:=by
   unfold mK;show(jO (clipAt _ _-0) _).length<=2;rw[eW];let:clipAt cs.length 2<=2:=by rw[show(2:Int)=((2:Nat):Int)from rfl,xG];exact Nat.min_le_left _ _
   exact("HGAv;nyHYg:aSm/m,R.,F<_'#",this,rfl,rfl)
  generalize(mK cs aI<|aq 2).getD i 0=cell;refine lC (iM ("")<|iL c1<|iM (by rw[cF];exact("f76SRmDA2>YO4]To%#",c2,c3))<|Lg _ _ _ (os++[97+cell % 3]) ⟨k2.oY hD,?_,by rw[cz,c2];rfl,("+&b=b`aHQ~ZoyV%#",lt,l2),?_⟩)
  .rw[lT,show(97:Int)+((cell:Nat):Int) % 3=((97+cell % 3:Nat):Int) by exact("-[,-x*>VB#cW_C{?=1>fVl_/J(o%'fb#^x[LS&%",by exact jl rfl rfl rfl,by exact jN rfl rfl rfl)];exact congrArg aq<|oZ os [97+cell % 3]
  .intro y my;rcases aE.mp my with m|m
   .exact c4 y m
   .rw[aH.mp m];exact("&x(pcJNS&?3}C5Wz&#",by exact jN rfl rfl rfl)
 .rintro D hD YG x0 x1 os ⟨k2,c1,c2,c3,c4⟩;have k3:=k1.trans k2;refine iM (ak rfl) (iP λt ht=>iL (o:=NL os) (by rw[lV (l9 c1 ht)];exact c1)<|iL (lT _ _ _)<|iM (by rw[cF];show _+6<=_;exact("3P7'EC'rKjtDndJ%z;%#",c2,c3))<|iP λsm V9=>iM (aQ 2) ?_);let k4:=(k3.new (o:=.list [.int 257,.int 100,.int 101,.int 102,.int 258,.int 265]) ht).new (o:=NL<|os++[257,100,101,102,258,265]) V9;let e4:=oZ os [257,100,101,102,258,265];let k4:=(k3.new (o:=.list [.int 257,.int 100,.int 101,.int 102,.int 258,.int 265]) ht).new (o:=.list ((os.map λ(n:Nat)=>iR n)++[257,100,101,102,258,265].map λ(n:Nat)=>iR n)) V9;refine P7 (some_:=os++[257,100,101,102,258,265]) (k4 _ _ hb nb) h2 hn (k4 _ _ hc nb) cl bc (by rw[lT];exact congrArg aq e4) ?_ ?_ λH' mI l o k e=>h H' mI l o ((k4.more λx m=>(iN m).elim).trans k) e
  .rw[cz];show _+6<=8;exact("+'OikGH'g6o5Mu%#",c2,c3)
  .intro x m;rcases aE.mp m with m|m
   .exact c4 x m
   .let:∀x∈[257,100,101,102,258,265],x<=285:=by decide
    exact this x m
end
theorem eq3(out:List UInt8)(pl:Int):Gn [.nm 49,.bytes out,.int pl] [.nm 49,.bytes out,.int pl]=aq af:=by show N8 (aq<|aF 49 49) (N8 (aq<|decide<|out=out)<|N8 (aq<|decide<|pl=pl)<|aq af)=aq af;rw[decide_eq_true rfl,decide_eq_true rfl];rfl
abbrev Ye(at_:Nat):MS:=qu (8*at_) [] ag aI
def sM:Prop:=∀(pg:Pg)(at_:Nat)(H:AH)(Q:V->AH->Prop)(E:AH->Prop)(r:M7),pg.length<=100000->at_<=100->mB pg (Ye at_) r->(match r with
 |.pd=>False
 |.bad=>∀a H',lY [] H H'->H' a=aq (.tup [.nm 7])->Q (.ref a) H'
 |.told out pl=>∀a H',lY [] H H'->H' a=aq (.tup [.nm 49,.bytes out,.int (pl:Nat)])->Q (.ref a) H')->mH 10 (.ref 332) [.bytes pg,.int at_] H Q E
inductive zC(H:AH)(t:bp)(pg:Pg)(s0:MS):Prop
 |bad:mB pg s0 .bad->H t=aq (.tup [.nm 7])->zC H t pg s0
 |pd:H t=aq (.tup [.nm 9])->zC H t pg s0
 |told {out pl x y}:mB pg s0 (.told out pl)->H t=aq (.tup [.nm 49,.bytes out,.int (pl:Nat),x,y])->zC H t pg s0
section
variable{H:AH}{Q:V->AH->Prop}{E:AH->Prop}
theorem Lk{pg:Pg}{at_:Nat}(hl:pg.length<=100000)(CY:at_<=100000)(h:∀t H',lY [] H H'->zC H' t pg (Ye at_)->Q (.ref t) H'):mH 5 (.ref 325) [.bytes pg,.int at_] H Q E:=
 Sd hl CY ⟨λr a H' k e=>h a H' k<|.bad r e,λa H' k e=>h a H' k<|.pd e,λout pl r a H' x y k e=>h a H' k<|.told r e⟩
theorem Sp(hh:sM){pg:Pg}{at_:Nat}(hl:pg.length<=100000)(CY:at_<=100){t:bp}{v0 v1 v2 v3 v7 v8 v9 v10 v11:Option V}(ht:zC H t pg<|Ye at_)(h:∀H',lY [] H H'->Q (.bool af) H'){N C:Loc->AH->Prop}:
  (Xs).ev [v0,v1,v2,v3,aq<|.int (at_:Nat),aq<|.bytes pg,aq<|.ref t,v7,v8,v9,v10,v11,aI,aI,aI,aI,aI,aI,aI,aI,aI,aI,aI] H E N C Q:=by
 cases ht with
 |pd ht=>exact iL ht (iS (v:=.nm 9) rfl<|lC<|h H .refl)
 |bad r ht=>
  refine iL ht<|iS (v:=.nm 7) rfl<|lD<|lw rfl (dg _)<|hh _ _ _ _ _ _ hl CY r λa H' k e=>?_;let Pq:=k _ _ ht iN;exact iL Pq (iM ("")<|lC<|iL e<|iL Pq<|z6.intro (b:=af) rfl<|h H' k)
 |told r ht=>
  refine iL ht<|iS (v:=.nm 49) rfl<|lD<|lw rfl (dg _)<|hh _ _ _ _ _ _ hl CY r λa H' k e=>?_;let Pq:=k _ _ ht iN;exact iL Pq (iM ("")<|lD<|iP λz hz=>iL (by rw[lV (l9 e hz)];exact e)<|iL (lT _ _ _)<|z6.intro (eq3 _ _)<|h _<|k.new hz)
theorem Sq(hh:sM){pg:Pg}{at_:Nat}(hl:pg.length<=100000)(CY:at_<=100){t:bp}{v0 v1 v2 v3 v7 v8 v9 v10 v11:Option V}(ht:zC H t pg<|Ye at_){N C:Loc->AH->Prop}
  (h:∀H',lY [] H H'->(Pj).ev [v0,v1,v2,v3,aq<|.int (at_:Nat),aq<|.bytes pg,aq<|.ref t,v7,v8,v9,v10,v11,aI,aI,aI,aI,aI,aI,aI,aI,aI,aI,aI] H' E N C Q):
  (Ts).ev [v0,v1,v2,v3,aq<|.int (at_:Nat),aq<|.bytes pg,aq<|.ref t,v7,v8,v9,v10,v11,aI,aI,aI,aI,aI,aI,aI,aI,aI,aI,aI] H E N C Q:=by
 cases ht with
 |pd ht=>exact iL ht (iS (v:=.nm 9) rfl<|lD<|lD<|h H .refl)
 |bad r ht=>
  refine iL ht<|iS (v:=.nm 7) rfl<|lC<|lw rfl (dg _)<|hh _ _ _ _ _ _ hl CY r λa H' k e=>?_;let Pq:=k _ _ ht iN;exact iL Pq (iM ("")<|lC<|iL e<|iL Pq<|z6.intro (b:=af) rfl<|lD<|lD<|h H' k)
 |told r ht=>
  refine iL ht<|iS (v:=.nm 49) rfl<|lC<|lw rfl (dg _)<|hh _ _ _ _ _ _ hl CY r λa H' k e=>?_;let Pq:=k _ _ ht iN;exact iL Pq (iM ("")<|lD<|iP λz hz=>iL (by rw[lV (l9 e hz)];exact e)<|iL (lT _ _ _)<|z6.intro (eq3 _ _)<|lD<|lD<|h _<|k.new hz)
end
abbrev VA(v0:Option V)(c r:bp)(v3:Option V)(at_:Nat)(v5 v6 v7 v8 v9 v10 v11:Option V):Loc:=[v0,aq<|.ref c,aq<|.ref r,v3,aq<|.int (at_:Nat),v5,v6,v7,v8,v9,v10,v11,aI,aI,aI,aI,aI,aI,aI,aI,aI,aI,aI]
theorem aa5(p:Bool):∃n:Nat,(if p=af then(1:Int)else 0)=(n:Nat)/\n<=1:=by
 cases p
 .exact⟨0,rfl,by decide⟩
 .exact⟨1,rfl,by decide⟩
section
variable{H:AH}{Q:V->AH->Prop}{E:AH->Prop}
theorem Nm(hh:sM){c r b:bp}{at_:Nat}{lR lL:List Nat}{lM:Int}{v0 v3 v5 v6 v9 v10 v11:Option V}(CY:at_<=100)
  (hr:H r=aq (NL lR))(rl:lR.length<=100)(rb:∀x∈lR,x<256)(hb:H b=aq (NL lL))(h2:sV lL)(hn:lL.length<=100000)(h:∀H',lY [] H H'->Q (.bool af) H'){N C:Loc->AH->Prop}:
  (Xu).ev (VA v0 c r v3 at_ v5 v6 (aq<|.int lM) (aq<|.ref b) v9 v10 v11) H E N C Q:=by
 let nb:∀{a:bp},a∉([]:List bp):=iN;refine iM (ak rfl)<|iP λa ha=>iL (lT _ _ _)<|iM ⟨⟨("(ZvIuSc<&0zh4^wan$#"),("(mceAMw*0IL.'gfOf-JNj$#",CY)⟩,?_⟩<|iP λd hd=>?_
 .show 1*_<=_;exact("$mJ[VH-R=K_wZ1fv9G7p{N%#",CY,rfl)
 have en:((at_:Nat):Int).toNat=at_:=("s4RlOb-;:~iss%#",rfl);have k1:=((ly (ms:=[]) (H:=H)).new (o:=.list [.int 5]) ha).new (o:=.list (qa ((at_:Nat):Int).toNat [.int 5])) hd;let d1:upd (upd H a<|.list [.int 5]) d (.list (qa ((at_:Nat):Int).toNat [.int 5])) d=aq (NL<|oy at_ [5]):=by rw[lT,en];exact congrArg (λl=>aq<|jr l)<|rP [5] at_
 refine lw rfl ("q80r5##")<|Nj (k1 _ _ hb nb) h2 ("9U=UJJt&=H5NJV($#",hn) λp H1 ps hp k2 p1 pl pb=>?_;have kk:=k1.trans k2;refine iL (k2 _ _ d1 nb)<|iL p1<|iM ?_<|iP λe he=>?_
 .rw[cF,cF,pW];show at_*1+_<=_;exact("A)FJ(RcE8$N,Hok=&T]:'G[Jm)ht3g&b&#",CY,hn,pl)
 let k3:=kk.new (o:=.list (((oy at_ [5]).map λ(n:Nat)=>iR n)++ps.map λ(n:Nat)=>iR n)) he;let e1:=yA H1 e (oy at_ [5]) ps;refine iM ("")<|iM ("")<|iL (k3 _ _ hr nb)<|iP λs hs=>?_;let s1:=(lT (upd H1 e<|.list (((oy at_ [5]).map λ(n:Nat)=>iR n)++ps.map λ(n:Nat)=>iR n)) s<|.list (mK (lR.map λ(n:Nat)=>iR n) aI<|aq<|lM/6 % 3)).trans (congrArg (λl=>aq<|jr l)<|sU lR aI<|aq<|lM/6 % 3);let k4:=k3.new (o:=.list (mK (lR.map λ(n:Nat)=>iR n) aI<|aq<|lM/6 % 3)) hs;let e2:upd (upd H1 e<|.list (((oy at_ [5]).map λ(n:Nat)=>iR n)++ps.map λ(n:Nat)=>iR n)) s (.list (mK (lR.map λ(n:Nat)=>iR n) aI<|aq<|lM/6 % 3)) e=aq (NL<|oy at_ [5]++ps):=by rw[lV (l9 e1 hs)];exact e1
 let sl:(mK lR aI<|aq<|lM/6 % 3).length<=100:=gq (oq _ _ _) rl;have pl2:(oy at_ [5]++ps).length<=90000:=by rw[cz,pW];show at_*1+_<=_;exact("-6o%om*I>m.=+VOyz8[m%JPpl)Vvu6Q&#",CY,hn,pl)
 refine iL e2<|iL s1<|iM ?_<|iP λw hw=>?_
 .rw[cF,cF];exact("hNRj-ge>3fkG'$2=N'(:;s%#",sl,pl2)
 let w1:=yA (upd (upd H1 e<|.list (((oy at_ [5]).map λ(n:Nat)=>iR n)++ps.map λ(n:Nat)=>iR n)) s<|.list (mK (lR.map λ(n:Nat)=>iR n) aI<|aq<|lM/6 % 3)) w (oy at_ [5]++ps)<|mK lR aI<|aq<|lM/6 % 3;let k5:=k4.new (o:=.list (((oy at_ [5]++ps).map λ(n:Nat)=>iR n)++(mK lR aI<|aq<|lM/6 % 3).map λ(n:Nat)=>iR n)) hw;refine iL w1<|jt (qv _)<|iM (λi m=>?_) ?_
 .obtain⟨x,mx,rfl⟩:=ef.mp m;have:x<256:=by
   rcases aE.mp mx with m|m
   .rcases aE.mp m with m|m
    .rw[aH.mp (rD m)];decide
    .exact pb x m
   .exact rb x<|iX<|iZ m
  exact("D/217i0.+cx{m9M{hW$#",this)
 .have hl:(((oy at_ [5]++ps++mK lR aI (aq<|lM/6 % 3)).map λ(n:Nat)=>(n:Int)).map λi=>i.toNat.toUInt8).length<=100000:=by
   rw[cF,cF,cz];exact(":i3ElcN#b$[;^bZt0Z)K7%#",sl,pl2)
  exact lw rfl ("q8R6w##")<|Lk hl ("9C+jzjVg7V;mE$#",CY) λt H' k6 ht=>Sp (N:=N) (C:=C) hh hl CY ht λIB k7=>h IB<|(k5.trans k6).trans k7
theorem Sr(hh:sM){c r:bp}{at_:Nat}{lR cs:List Nat}{v0 v3 v5 v6 v7 v8 v9 v10 v11:Option V}(CY:at_<=100)
  (hr:H r=aq (NL lR))(rl:lR.length<=100)(rb:∀x∈lR,x<256)(hc:H c=aq (NL cs))(cl:cs.length<=50)(h:∀H',lY [] H H'->Q (.bool af) H'){N C:Loc->AH->Prop}:
  (Pj).ev (VA v0 c r v3 at_ v5 v6 v7 v8 v9 v10 v11) H E N C Q:=by
 have nb:∀{a:bp},a∉([]:List bp):=iN;refine iL hc<|jt (qv cs)<|iL hc<|iM (q8 ("") (""))<|iM (ak rfl)<|iP λb hb=>iM (ak rfl)<|iP λt ht=>iL (lT _ _ _) ?_;have b1:upd (upd H b<|.list []) t (.tup [.int ((cs.map λ(n:Nat)=>(n:Int)).sum+3*((cs.map λ(n:Nat)=>iR n).length:Nat)),.ref b]) b=aq (NL []):=by refine bF (lV<|l9 (lT _ b _) ht)▸?_;exact lT _ b _
 have k1:=((ly (ms:=[]) (H:=H)).new (o:=.list []) hb).new (o:=.tup [.int ((cs.map λ(n:Nat)=>(n:Int)).sum+3*((cs.map λ(n:Nat)=>iR n).length:Nat)),.ref b]) ht;revert b1 k1;generalize(cs.map λ(n:Nat)=>(n:Int)).sum+3*((cs.map λ(n:Nat)=>iR n).length:Nat)=lM;generalize upd (upd H b<|.list []) t (.tup [.int lM,.ref b])=H1;intro b1 k1;have TC:=k1 _ _ hc nb;refine iL TC<|iP λs1 Yg=>?_;have k2:=(ly (ms:=[]) (H:=H1)).new (o:=.list (mK (cs.map λ(n:Nat)=>iR n) aI<|aq 3)) Yg;have e1:=(lT H1 s1<|.list (mK (cs.map λ(n:Nat)=>iR n) aI<|aq 3)).trans (congrArg (λl=>aq<|jr l)<|sU cs aI<|aq 3);refine iL (k2 _ _ TC nb)<|iP λs2 O4=>?_;have k3:=k2.new (o:=.list (mK (cs.map λ(n:Nat)=>iR n) (aq 3)<|aq 10)) O4;let e2:=(lT (upd H1 s1<|.list (mK (cs.map λ(n:Nat)=>iR n) aI<|aq 3)) s2<|.list (mK (cs.map λ(n:Nat)=>iR n) (aq 3)<|aq 10)).trans (congrArg (λl=>aq<|jr l)<|sU cs (aq 3)<|aq 10);refine iL (k3 _ _ TC nb)<|iP λs3 Wa=>?_;let To:upd (upd (upd H1 s1<|.list (mK (cs.map λ(n:Nat)=>iR n) aI<|aq 3)) s2<|.list (mK (cs.map λ(n:Nat)=>iR n) (aq 3)<|aq 10)) s3 (.list (mK (cs.map λ(n:Nat)=>iR n) aI<|aq 1)) s2=aq (NL<|mK cs (aq 3)<|aq 10):=by rw[lV (l9 e2 Wa)];exact e2
 let e3:=(lT (upd (upd H1 s1<|.list (mK (cs.map λ(n:Nat)=>iR n) aI<|aq 3)) s2<|.list (mK (cs.map λ(n:Nat)=>iR n) (aq 3)<|aq 10)) s3<|.list (mK (cs.map λ(n:Nat)=>iR n) aI<|aq 1)).trans (congrArg (λl=>aq<|jr l)<|sU cs aI<|aq 1);let k4:=k3.new (o:=.list (mK (cs.map λ(n:Nat)=>iR n) aI<|aq 1)) Wa;let la:=gq (oq cs aI<|aq 3) cl;let lb:=gq (oq cs (aq 3)<|aq 10) cl;let lc:=gq (oq cs aI<|aq 1) cl;refine iL To (iL e3<|iM (by rw[cF,cF];exact("$OJ_%wQ+tk`<_oWMs*P}o%#",lb,lc))<|iP λs4 GG=>?_);let e4:=yA (upd (upd (upd H1 s1<|.list (mK (cs.map λ(n:Nat)=>iR n) aI<|aq 3)) s2<|.list (mK (cs.map λ(n:Nat)=>iR n) (aq 3)<|aq 10)) s3<|.list (mK (cs.map λ(n:Nat)=>iR n) aI<|aq 1)) s4 (mK cs (aq 3)<|aq 10)<|mK cs aI<|aq 1;let k5:=k4.new (o:=.list (((mK cs (aq 3)<|aq 10).map λ(n:Nat)=>iR n)++(mK cs aI<|aq 1).map λ(n:Nat)=>iR n)) GG;let bs1:b≠s1:=l9 b1 Yg;let bs4:b≠s4:=l9 (k4 _ _ b1 nb) GG;let IG:=((ly (ms:=[])).new (o:=.list (mK (cs.map λ(n:Nat)=>iR n) (aq 3)<|aq 10)) O4|>.new (o:=.list (mK (cs.map λ(n:Nat)=>iR n) aI<|aq 1)) Wa|>.new (o:=.list (((mK cs (aq 3)<|aq 10).map λ(n:Nat)=>iR n)++(mK cs aI<|aq 1).map λ(n:Nat)=>iR n)) GG) _ _ e1 nb;let Yh:=k1.trans k5;let b5:=k5 _ _ b1 nb;revert IG e4 Yh b5;generalize upd (upd (upd (upd H1 s1<|.list (mK (cs.map λ(n:Nat)=>iR n) aI<|aq 3)) s2<|.list (mK (cs.map λ(n:Nat)=>iR n) (aq 3)<|aq 10)) s3<|.list (mK (cs.map λ(n:Nat)=>iR n) aI<|aq 1)) s4 (.list (((mK cs (aq 3)<|aq 10).map λ(n:Nat)=>iR n)++(mK cs aI<|aq 1).map λ(n:Nat)=>iR n))=H5;intro e4 IG Yh b5;clear k1 b1 k2 k3 k4 k5 e1 e2 To e3 Yg O4 Wa GG TC;revert IG e4;have lA:(mK cs aI<|aq 3).length<=50:=la;have lB:(mK cs (aq 3) (aq 10)++mK cs aI (aq 1)).length<=100:=by rw[cz];exact("'.aR%eJ.2=v_`$kHm%%#",lb,lc)
 revert lA lB;generalize mK cs aI (aq 3)=A;generalize mK cs (aq 3) (aq 10)++mK cs aI (aq 1)=B;intro lA lB e4 e1;refine iM (ak rfl)<|iP λl hl=>?_;refine iM ("")<|iL (lT _ _ _)<|iP λl2 R1=>iL (lT _ _ _) ?_;let k6:=((ly (ms:=[]) (H:=H5)).new (o:=.list [.ref s1,.ref s4]) hl).new (o:=.list (mK [.ref s1,.ref s4] (aq<|lM % 2) aI)) R1;let e1:=k6 _ _ e1 nb;let e4:=k6 _ _ e4 nb;let b6:=k6 _ _ b5 nb;let bl2:b≠l2:=l9 (((ly (ms:=[]) (H:=H5)).new (o:=.list [.ref s1,.ref s4]) hl) _ _ b5 nb) R1;let kk:=Yh.trans k6;let x2:(mK [jX s1,.ref s4] (aq<|lM % 2) aI).length<=2:=oq _ _ _;have xm:∀x∈mK [jX s1,.ref s4] (aq<|lM % 2) aI,x=.ref s1∨x=.ref s4:=λx m=>by
  let m:x∈[jX s1,.ref s4]:=iX<|iZ m;rcases aA.mp m with e|m
  .exact .inl e
  .exact .inr (aH.mp m)
 let Yi:=lT (upd H5 l<|.list [.ref s1,.ref s4]) l2<|.list (mK [.ref s1,.ref s4] (aq<|lM % 2) aI);revert e1 e4 b6 kk Yi;generalize upd (upd H5 l<|.list [.ref s1,.ref s4]) l2 (.list (mK [.ref s1,.ref s4] (aq<|lM % 2) aI))=H6;intro e1 e4 b6 kk Yi;revert x2 xm Yi;generalize mK [jX s1,.ref s4] (aq<|lM % 2) aI=xs;intro x2 xm Yi;let bH:H b=aI:=hb;refine xR.tl [Option V,Option V,Option V,List Nat] (λ_ v9 v10 v11 _=>VA v0 c r v3 at_ v5 v6 (aq<|.int lM) (aq<|.ref b) v9 v10 v11) (λi _ _ _ lL h=>A5 (lL.length<=21000*i) (i<=2) (sV lL) (lY [b] H6 h)<|h b=aq (NL lL)) ⟨v9,v10,v11,[],⟨aR _,aR _,λ_ m=>(by cases m),.refl,b6⟩,rfl⟩ ?_ ?_ ?_
 .intro i h v9 v10 v11 lL jj;let q1:=jj.1;let q2:=jj.2;let q3:=jj.3;let q4:=jj.4;let q5:=jj.5;exact q4 _ _ Yi<|vc bl2
 .rintro i h x tt K hx HW hK v9 v10 v11 lL ⟨q1,q2,q3,q4,q5⟩;have il:=(bZ.mp hx).1;have b7:upd h tt (.tup [.int i,x]) b=aq (NL lL):=by rw[lV (l9 q5 HW)];exact q5
  let k7:=q4.new (o:=.tup [.int i,x]) HW;refine iL (lT _ _ _) (iL b7<|iM ("")<|iL b7<|iM (by rw[cF];exact("$mTJFf)0SThiTZpobFRXxy%#",q1,q2)) ?_);obtain⟨n1,en1,l1⟩:=aa5<|decide<|(i:Int)=1-lM % 2;have b8:upd (upd h tt<|.tup [.int i,x]) b (.list ((lL.map λ(n:Nat)=>iR n)++[.int (if decide ((i:Int)=1-lM % 2)=af then(1:Int)else 0)])) b=aq (NL<|lL++[n1]):=by rw[lT,en1];exact congrArg aq<|oZ lL [n1]
  let k8:=k7.upd (o:=.list ((lL.map λ(n:Nat)=>iR n)++[.int (if decide ((i:Int)=1-lM % 2)=af then(1:Int)else 0)]))<|.head _;have o8:sV (lL++[n1]):=q3.app λy m=>by rw[aH.mp m];exact("(EC6olP~t$#",l1)
  have l8:(lL++[n1]).length=lL.length+1:=by rw[cz];rfl
  refine iM ("")<|iM ("")<|iM (q8 ("") (""))<|lw rfl ("q80r5##")<|sr (m:=2) rfl b8 o8 ("") ("5XL4y~3[uOmRjF8$Z>ZHs?'&X5l8&#",q1,q2,l8) λH9 ab5 b9 o9 k9 e9=>?_;have Sl:=k8.trans k9;let sx:∃(s:bp)(S:List Nat),x=.ref s/\H9 s=aq (NL S)/\S.length<=100/\b≠s:=by
   rcases xm x (bR hx)with e|e
   .exact⟨s1,A,e,Sl _ _ e1<|vc bs1,("}I[g5Oz?LOx$#",lA),bs1⟩
   .exact⟨s4,B,e,Sl _ _ e4<|vc bs4,lB,bs4⟩
  refine gu λP9 mG=>?_;obtain⟨s,S,rfl,es,ls,bs⟩:=sx;refine mG ?_;refine iQ (λ_=>lw rfl ("q88zF##")<|Nh e9 es o9 ("&8b4iPV.&f};ws6>lrDOh_,7:QhW<wH.9'#",q1,q2,l8,b9) ("2l<|v}<1&G*l$#",ls) (λH' mI l' o' k' e'=>hK _ _ _ _ mI ⟨("?=KanX#am5}q|oh)4.GJ6X9HF;&UGQyc5I&TGHUdW7?h])#",q1,l8,b9,ls,l'),gq il x2,o',Sl.trans k',e'⟩) bs) λ_=>lw rfl ("q8B&V##")<|Kg e9 o9 ("&8b4iPV.&f};ws6>lrDOh_,7:QhW<wH.9'#",q1,q2,l8,b9) es ("${p8NH|t=)qU$#",ls) bs λH' mI l' o' k' e'=>hK _ _ _ _ mI ⟨("0(dxn_k]fEr[&O^c$;yU,G2~<Hp}>)WT?'+uI(#",q1,l8,b9,l'),gq il x2,o',Sl.trans k',e'⟩
 .intro h' v9 v10 v11 lL jj;let q1:=jj.1;let q2:=jj.2;let q3:=jj.3;let q4:=jj.4;let q5:=jj.5;have kx:=kk.fresh q4 λx m=>by rw[aH.mp m];exact bH
  exact Nm hh CY (kx _ _ hr nb) rl rb q5 q3 (gq q1<|gq (Nat.mul_le_mul_left 21000 x2) ("")) λH' k=>h H'<|kx.trans k
end
section
variable{H:AH}{Q:V->AH->Prop}{E:AH->Prop}
theorem ED(hh:sM){c r:bp}{lR cs:List Nat}{v0 v3 v4 v5 v6 v7 v8 v9 v10 v11:Option V}
  (hr:H r=aq (NL lR))(rl:lR.length<=100)(rb:∀x∈lR,x<256)(hc:H c=aq (NL cs))(cl:cs.length<=50)(h:∀H',lY [] H H'->Q (.bool af) H'){N C:Loc->AH->Prop}:
  (Tt).ev [v0,aq<|.ref c,aq<|.ref r,v3,v4,v5,v6,v7,v8,v9,v10,v11,aI,aI,aI,aI,aI,aI,aI,aI,aI,aI,aI] H E N C Q:=by
 have nb:∀{a:bp},a∉([]:List bp):=iN;refine iL hc<|jt (qv cs)<|iM ("")<|iM ("") ?_;have ea:∃at_:Nat,(cs.map λ(n:Nat)=>(n:Int)).sum/4 % 3=(at_:Nat)/\at_<=100:=⟨((cs.map λ(n:Nat)=>(n:Int)).sum/4 % 3).toNat,("Ix2O<8--#+&5,ZW-]PM$&",by exact jl rfl rfl rfl,("%")),("&6Yl3{rqZ_FV,mxszt$&",by exact jl rfl rfl rfl,("%"))⟩;obtain⟨at_,ea,CY⟩:=ea;rw[ea];refine iM (ak rfl) (iP λa ha=>iL (lT _ _ _)<|iM ⟨⟨("(ZvIuSc<&0zh4^wan$#"),("$Oy3q|~Kv^YC{t9|FXw(sw|_bjO$&",ea,by exact jl rfl rfl rfl)⟩,?_⟩<|iP λd hd=>?_)
 .show 1*_<=_;exact("&CJn(hd}k_n(Q|19^5TIKZ&[$K8/%&",ea,("%"),by exact jl rfl rfl rfl)
 have en:((at_:Nat):Int).toNat=at_:=("s4RlOb-;:~iss%#",rfl);have k1:=((ly (ms:=[]) (H:=H)).new (o:=.list [.int 5]) ha).new (o:=.list (qa ((at_:Nat):Int).toNat [.int 5])) hd;let d1:upd (upd H a<|.list [.int 5]) d (.list (qa ((at_:Nat):Int).toNat [.int 5])) d=aq (NL<|oy at_ [5]):=by rw[lT,en];exact congrArg (λl=>aq<|jr l)<|rP [5] at_
 have pl:(oy at_ [5]).length<=100:=by rw[pW];show at_*1<=_;exact(".F1WLP0nmJ4X(dToCaA$&",ea,by exact jl rfl rfl rfl)
 refine iL d1 (iL (k1 _ _ hr nb)<|iM (by rw[cF,cF];exact("(xeX.a#F%d+2F'/%Zc[so%#",rl,pl))<|iP λw hw=>?_);let w1:=yA (upd (upd H a<|.list [.int 5]) d<|.list (qa ((at_:Nat):Int).toNat [.int 5])) w (oy at_ [5]) lR;let k2:=k1.new (o:=.list (((oy at_ [5]).map λ(n:Nat)=>iR n)++lR.map λ(n:Nat)=>iR n)) hw;refine iL w1<|jt (qv _)<|iM (λi m=>?_) ?_
 .obtain⟨x,mx,rfl⟩:=ef.mp m;let:x<256:=by
   rcases aE.mp mx with m|m
   .rw[aH.mp (rD m)];decide
   .exact rb x m
  exact("D/217i0.+cx{m9M{hW$#",this)
 .have hl:(((oy at_ [5]++lR).map λ(n:Nat)=>(n:Int)).map λi=>i.toNat.toUInt8).length<=100000:=by
   rw[cF,cF,cz];exact("%*xCls*v|]|=E#]k[4m9%#",rl,pl)
  refine lw rfl ("q8R6w##") (Lk hl ("(c*:s}}p*,%VLPb[#c0$&",ea,by exact jl rfl rfl rfl) λt H' k6 ht=>Sq (N:=N) (C:=C) hh hl CY ht λIB k7=>?_);have kk:=(k2.trans k6).trans k7;exact Sr hh CY (kk _ _ hr nb) rl rb (kk _ _ hc nb) cl λH3 k8=>h H3<|kk.trans k8
theorem Ll(hh:sM){c r:bp}{lR cs:List Nat}{kind:Int}{v0 v4 v5 v6 v7 v8 v9 v10 v11:Option V}
  (hr:H r=aq (NL lR))(rl:lR.length<=50)(rb:∀x∈lR,x<256)(hc:H c=aq (NL cs))(cl:cs.length<=50)(h:∀H',lY [] H H'->Q (.bool af) H'){N C:Loc->AH->Prop}:
  (Tu).ev [v0,aq<|.ref c,aq<|.ref r,aq<|.int kind,v4,v5,v6,v7,v8,v9,v10,v11,aI,aI,aI,aI,aI,aI,aI,aI,aI,aI,aI] H E N C Q:=by
 let nb:∀{a:bp},a∉([]:List bp):=iN;have out:=ED (E:=E) (N:=N) (C:=C) (v0:=v0) (v3:=aq<|.int kind) (v4:=v4) (v5:=v5) (v6:=v6) (v7:=v7) (v8:=v8) (v9:=v9) (v10:=v10) (v11:=v11) hh hr ("}I[g5Oz?LOx$#",rl) rb hc cl h;refine iQ (λ_=>iL hr<|iQ (λc1=>iL hc<|jt (qv cs)<|iM ("")<|iM ("")<|iQ (λ_=>lC ?_) λ_=>lD out) λ_=>lD out) λ_=>lD out;let c1:=pN c1;rw[cF]at c1;refine iL hr<|iP λs1 Yg=>?_;have k1:=(ly (ms:=[]) (H:=H)).new (o:=.list (mK (lR.map λ(n:Nat)=>iR n) aI<|aq 1)) Yg;have e1:=(lT H s1<|.list (mK (lR.map λ(n:Nat)=>iR n) aI<|aq 1)).trans (congrArg (λl=>aq<|jr l)<|sU lR aI<|aq 1);have r1:=k1 _ _ hr nb;have ew:(((lR.map λ(n:Nat)=>iR n).length:Int)-5) % 256=((((lR.length:Int)-5) % 256).toNat:Nat):=by rw[cF];exact("&Hl~+jf|i>9UH0q7x[d24'%%",by exact jl rfl rfl rfl,("%"))
 obtain⟨w,ew,wl⟩:∃w:Nat,(((lR.map λ(n:Nat)=>iR n).length:Int)-5) % 256=(w:Nat)/\w<256:=⟨_,ew,("X(P(uTY:0.i3dV&OLO<?%%",by exact jl rfl rfl rfl,("%"))⟩;refine iL r1<|iM ("")<|iL r1<|iM ("")<|iM (ak rfl)<|iP λs2 O4=>?_;let e2:upd (upd H s1<|.list (mK (lR.map λ(n:Nat)=>iR n) aI<|aq 1)) s2 (.list [.int ((((lR.map λ(n:Nat)=>iR n).length:Int)-5) % 256),.int 0,.int (255-(((lR.map λ(n:Nat)=>iR n).length:Int)-5) % 256),.int 255]) s2=aq (NL [w,0,255-w,255]):=by rw[lT,ew,show(255:Int)-(w:Nat)=((255-w:Nat):Int) by exact("$yky.S70{.(K]$YOG,_VW>Oi9~Z9FLIQtf&%",ew,("%"),by exact jl rfl rfl rfl)];rfl
 let k2:=k1.new (o:=.list [.int ((((lR.map λ(n:Nat)=>iR n).length:Int)-5) % 256),.int 0,.int (255-(((lR.map λ(n:Nat)=>iR n).length:Int)-5) % 256),.int 255]) O4;let IG:=(lV (o:=.list [.int ((((lR.map λ(n:Nat)=>iR n).length:Int)-5) % 256),.int 0,.int (255-(((lR.map λ(n:Nat)=>iR n).length:Int)-5) % 256),.int 255])<|l9 e1 O4).trans e1;have la:(mK lR aI<|aq 1).length<=50:=gq (oq _ _ _) rl;have ll:(mK lR (aq 5) aI).length<=46:=by
  unfold mK;show(jO (lR.length-clipAt _ _)<|kh (clipAt _ _) lR).length<=46;rw[eW];let:4<=clipAt lR.length 5:=by rw[show(5:Int)=((5:Nat):Int)from rfl,xG];exact Nat.le_min.mpr ⟨by decide,("NuW;_|R=0$#",c1)⟩
  exact("(/Ws&WvUtQ3s,6A~ZG2VW'U~rT'p3_6A[(#",rl,this,("%"),rfl)
 refine iL IG (iL e2<|iM (by rw[cF];show _+4<=_;exact id<|kO 0x14c000000ca210061906400021 ("$") la)<|iP λs3 Wa=>?_);let e3:=yA (upd (upd H s1<|.list (mK (lR.map λ(n:Nat)=>iR n) aI<|aq 1)) s2<|.list [.int ((((lR.map λ(n:Nat)=>iR n).length:Int)-5) % 256),.int 0,.int (255-(((lR.map λ(n:Nat)=>iR n).length:Int)-5) % 256),.int 255]) s3 (mK lR aI<|aq 1) [w,0,255-w,255];let k3:=k2.new (o:=.list (((mK lR aI<|aq 1).map λ(n:Nat)=>iR n)++[w,0,255-w,255].map λ(n:Nat)=>iR n)) Wa;have bA:∀x∈mK lR aI (aq 1)++[w,0,255-w,255],x<256:=λx m=>by
  rcases aE.mp m with m|m
  .exact rb x<|iX<|iZ m
  .simp only[aA,iN,or_false]at m;exact("*a~KKTdT.U)xWgj6>o:w?I`Pz>%:dp:%H(|EF>>%H68r;qLFQhC-'%",ew,m,by exact jl rfl rfl rfl,("%"))
 have lA:(mK lR aI (aq 1)++[w,0,255-w,255]).length<=54:=by rw[cz];show _+4<=_;exact id<|kO 0x29d832210061906400021 ("$") la
 refine iL (k3 _ _ hr nb)<|iP λs4 GG=>?_;let k4:=k3.new (o:=.list (mK (lR.map λ(n:Nat)=>iR n) (aq 5) aI)) GG;let e4:=(lT (upd (upd (upd H s1<|.list (mK (lR.map λ(n:Nat)=>iR n) aI<|aq 1)) s2<|.list [.int ((((lR.map λ(n:Nat)=>iR n).length:Int)-5) % 256),.int 0,.int (255-(((lR.map λ(n:Nat)=>iR n).length:Int)-5) % 256),.int 255]) s3<|.list (((mK lR aI<|aq 1).map λ(n:Nat)=>iR n)++[w,0,255-w,255].map λ(n:Nat)=>iR n)) s4<|.list (mK (lR.map λ(n:Nat)=>iR n) (aq 5) aI)).trans (congrArg (λl=>aq<|jr l)<|sU lR (aq 5) aI);let k3':=(ly (ms:=[])).new (o:=.list (mK (lR.map λ(n:Nat)=>iR n) (aq 5) aI)) GG;let e3':=k3' _ _ e3 nb;refine iL e3' (iL e4<|iM (by rw[cF,cF];exact("$OJ_%wQ+QajZoIp0dx3&P%#",ll,lA))<|iP λs5 hs5=>?_);let Yh:=(ly (ms:=[])).new (o:=.list (((mK lR aI (aq 1)++[w,0,255-w,255]).map λ(n:Nat)=>iR n)++(mK lR (aq 5) aI).map λ(n:Nat)=>iR n)) hs5;let k5:=k4.trans Yh;refine ED (E:=E) (N:=N) (C:=C) hh (lR:=mK lR aI (aq 1)++[w,0,255-w,255]++mK lR (aq 5) aI) (by rw[lT];exact congrArg aq<|oZ _ _) (by rw[cz];exact("'.aR%B?8PNPwBr]*qc%#",ll,lA)) (λx m=>?_) (k5 _ _ hc nb) cl λH' k=>h H'<|k5.trans k;rcases aE.mp m with m|m
 .exact bA x m
 .exact rb x<|iX<|iZ m
theorem vb{r x y z:Int}(h:x*8<=r)(hr:r<256)(hy:y<3)(hz:z<2):x*8+2*y+z<256:=by have k:x<=31:=("5-Tv-,)C>=5/.fL&_#%",h,hr);clear h hr;exact("*&t.[.C/<J/B(_&R%.I$8s7XIR#&",hy,hz,k)
theorem VB(hh:sM)(h:∀H',lY [] H H'->Q (.bool af) H'):mH 11 (.ref 385) [.ref G.Ra] H Q E:=by
 let nb:∀{a:bp},a∉([]:List bp):=iN;refine nS (n:=10) XG Pi .nil rfl ?_;refine⟨rfl,iP λs hs=>iL (lT _ _ _)<|iM rfl ?_⟩;have sl:(mK (G.ns.map iR) aI<|aq 12).length<=12:=by
  unfold mK;show(jO (clipAt _ _-0) _).length<=12;rw[eW];let:clipAt (G.ns.map iR).length 12<=12:=by rw[show(12:Int)=((12:Nat):Int)from rfl,xG];exact Nat.min_le_left _ _
  exact("HGAv;nyJRuvt{L$nK&-jQs?'#",this,rfl,rfl)
 have si:∀x∈mK (G.ns.map iR) aI (aq 12),∃i:Int,x=.int i:=λx m=>by obtain⟨i,_,e⟩:=ef.mp<|iX<|iZ m;exact⟨i,e.symm⟩
 have k1:=(ly (ms:=[]) (H:=H)).new (o:=.list (mK (G.ns.map iR) aI<|aq 12)) hs;refine lu [Option V,Option V,Option V,List Nat] (λ_ _ x0 x1 x2 _=>[x0,x1,x2]) (λD j _ _ _ cs h'=>A4 (lY [] (upd H s<|.list (mK (G.ns.map iR) aI<|aq 12)) h') (h' D=aq (NL cs)) (cs.length=j)<|j<=12) (λ_ hD=>⟨aI,aI,aI,[],⟨lY.refl.new hD,lT _ _ _,rfl,by decide⟩,rfl⟩) ?_ ?_ ?_
 .intro D hD i h2 x0 x1 x2 cs jj;let k2:=jj.1;exact k2 _ _ (lT _ _ _) nb
 .rintro D hD i h2 K' Lg x0 x1 x2 cs ⟨k2,c1,c2,c3⟩ x hx;obtain⟨z,rfl⟩:=si x<|bR hx;have il:i<(mK (G.ns.map iR) aI<|aq 12).length:=(bZ.mp hx).1;refine lC (iM ⟨⟨by decide,by decide⟩,by decide⟩<|iM ("") ?_);let ev:z % (10^jI 9)=((z % 1000000000).toNat:Nat):=by
   show z % 1000000000=_;exact(Int.toNat_of_nonneg<|aL z ("")).symm
  refine iL c1 (iM (by rw[cF];exact("f76SRmDA5}]#/,S;%#",c2,c3))<|Lg _ _ _ _ (cs++[(z % 1000000000).toNat]) ⟨k2.oY hD,?_,by rw[cz,c2];rfl,("+($bYIQ2?70lA/%#",sl,il)⟩);rw[lT,ev];exact congrArg aq<|oZ cs [(z % 1000000000).toNat]
 .rintro D hD h2 x0 x1 x2 cs ⟨k2,c1,c2,c3⟩;have kk:=k1.trans k2;have cl:cs.length<=12:=by rw[c2];exact c3
  clear sl si k2 c2 c3;refine iL c1 (iM rfl<|lu [Option V,Option V,List Nat] (λ_ _ x0 x1 _=>[x0,x1]) (λr j _ _ ps h'=>A5 (lY [] h2 h') (h' r=aq (NL ps)) (ps.length=j) (j<=12) (∀x∈ps,x<256)) (λ_ hr=>⟨aI,aI,[],⟨lY.refl.new hr,lT _ _ _,rfl,by decide,λ_ m=>(by cases m)⟩,rfl⟩) ?_ ?_ ?_)
  .intro r hr i h3 x0 x1 ps jj;let k2:=jj.1;exact k2 _ _ c1 nb
  .rintro r hr i h3 K' Lg x0 x1 ps ⟨k2,d1,d2,d3,d4⟩ x hx;obtain⟨lt,rfl⟩:=qC hx;refine lC (iM ("")<|iL d1<|iM (by rw[cF];exact("f76SRmDA5}]#/,S;%#",d2,d3))<|Lg _ _ _ (ps++[cs.getD i 0 % 256]) ⟨k2.oY hr,?_,by rw[cz,d2];rfl,("+($bYIQ2?70lA/%#",cl,lt),λy m=>?_⟩)
   .rw[lT,show((cs.getD i 0:Nat):Int) % 256=((cs.getD i 0 % 256:Nat):Int) by exact("-Eiv/M[F[E))wAMpmg*>H=)4)<,Ws]ZA^&%",by exact jl rfl rfl rfl,by exact jN rfl rfl rfl)];exact congrArg aq<|oZ ps [cs.getD i 0 % 256]
   .rcases aE.mp m with m|m
    .exact d4 y m
    .rw[aH.mp m];exact("%f=.fx??ear,j&#",by exact jN rfl rfl rfl)
  .rintro r hr h3 x0 x1 lR ⟨k2,d1,d2,d3,d4⟩;have rl:lR.length<=12:=by rw[d2];exact d3
   let k3:=kk.trans k2;let c3:=k2 _ _ c1 nb;let V7:=kk.F6 hr;refine iL c3<|iM ("")<|iM ("") ?_;obtain⟨kd,ekd,kdl⟩:∃k:Nat,((cs.map λ(n:Nat)=>iR n).length:Int)/2 % 3=(k:Nat)/\k<=2:=⟨(((cs.map λ(n:Nat)=>iR n).length:Int)/2 % 3).toNat,(Int.toNat_of_nonneg<|aL _ ("")).symm,Int.toNat_le.mpr<|Int.le_of_lt_add_one<|aG _ ("")⟩;refine iM (ak rfl)<|iP λe he=>?_;have k4:=(ly (ms:=[]) (H:=h3)).new (o:=.list []) he;have r4:=k4 _ _ d1 nb;have c4:=k4 _ _ c3 nb;have Ty:=k3.trans k4;refine iL r4<|iL (lT _ _ _)<|iM (.inr rfl)<|iQ (λc0=>?_) λ_=>Ll hh r4 ("$#pruuB$):`JBZ%#",d2,d3) d4 c4 ("2Tm~&]_Vx`$#",cl) λH' k=>h H'<|Ty.trans k;have c0:lR≠[]:=λe=>by subst e;cases c0
   have rl0:=jc.mpr c0;have r0:lR.getD 0 0<256:=by rw[bq,bU rl0];exact d4 _<|i7 _
   refine iL r4 (iS (pE (i:=0) rl0)<|iM ("")<|iM (uj ("") (""))<|iM (q8 ("") (""))<|iL c4<|jt (qv cs)<|iM ("")<|iL r4<|iM ⟨by decide,by rw[cF];exact("Nulqr|P0[$#",rl0)⟩ ?_);obtain⟨v,ev⟩:=Int.eq_ofNat_of_zero_le (a:=((lR.getD 0 0:Nat):Int)/8*8+2*(((cs.map λ(n:Nat)=>iR n).length:Int)/2 % 3)+(cs.map λ(n:Nat)=>(n:Int)).sum % 2)<|Int.add_nonneg (Int.add_nonneg (Int.mul_nonneg (Int.ediv_nonneg (Int.natCast_nonneg _) ("")) (""))<|Int.mul_nonneg ("")<|aL _ (""))<|aL _ ("");have vl:v<256:=Int.ofNat_lt.mp<|Int.lt_of_le_of_lt (ir ev.symm)<|vb (Int.ediv_mul_le _ ("")) (Int.ofNat_lt.mpr r0) (aG _ (""))<|aG _ ("");refine Ll hh (cs:=cs) (lR:=lR.set 0 v) ?_ (by rw[jF];exact("$#pruuB$):`JBZ%#",d2,d3)) (λx m=>?_) ?_ ("2Tm~&]_Vx`$#",cl) λH' k=>h H'<|(Ty.oY V7).trans k
   .rw[lT,ev];exact congrArg aq<|CL lR 0 v
   .rcases jo m with m|m
    .exact d4 x m
    .rw[m];exact vl
   .let cr:D≠r:=l9 c1 hr;rw[lV cr];exact c4
end
def TG:Prop:=∀(pg:Pg)(at_:Nat)(H:AH)(Q:V->AH->Prop)(E:AH->Prop)(r:M7),pg.length<=100000->at_<=100->mB pg (Ye at_) r->(match r with
 |.pd=>False
 |.bad=>∀H',lY [] H H'->E H'
 |.told out pl=>∀a H',lY [] H H'->H' a=aq (.tup [.bytes out,.int (pl:Nat)])->Q (.ref a) H')->mH 9 (.ref 250) [.bytes pg,.int at_] H Q E
theorem P8(hi:TG):sM:=λpg at_ H Q E r hl CY hr h=>by
 refine nS (n:=9) Ho Fj .nil rfl ⟨rfl,zU.se,lw rfl (dg _)<|hi pg at_ H _ _ r hl CY hr ?_⟩;cases r with
 |pd=>exact h
 |bad=>exact λH' k t ht=>h t _ (k.new ht) (lT _ _ _)
 |told out pl=>exact λa H' k e=>iL e<|lC<|iM (ak rfl)<|iP λt ht=>h t _ (k.new ht)<|lT _ _ _
theorem Kh(x y:Nat):jL (x:Int) (y:Int)=((x&&&y:Nat):Int):=by unfold jL;refine bF (decide_eq_true (("Ao/DVr$#"):(0:Int)<=x))▸?_;refine bF (decide_eq_true (("Ao/DVr$#"):(0:Int)<=y))▸?_;rfl
theorem Nn(x y:Nat):kF (x:Int) (y:Int)=((x|||y:Nat):Int):=by
 let n:∀z:Nat,jn (z:Int)= -(z:Int)-1:=λz=>by unfold jn;exact("&KQ3e0x4$kU:$#")
 let nn:∀z:Int,jn (jn z)=z:=λz=>by unfold jn;exact("%L{H6LKTE1e#$")
 unfold kF;let e:jL (jn (x:Int)) (jn (y:Int))=jn ((x|||y:Nat):Int):=by unfold jL;rw[nn,nn,n x,n y,decide_eq_false (("-f{:PB*v`$#"):¬(0:Int)<= -(x:Int)-1),decide_eq_false (("-f{:PB*v`$#"):¬(0:Int)<= -(y:Int)-1)];rfl
 rw[e,nn]
theorem Qa{a b m:Nat}(h:a<2^m):a|||b*2^m=a+b*2^m:=by
 let:=Nat.shiftLeft_add_eq_or_of_lt h b;rw[Nat.shiftLeft_eq]at this;rw[Nat.or_comm,<-this,kj]
theorem tG(pg:Pg)(p m:Nat):∀n,mE pg p (m+n)=mE pg p m+mE pg (p+m) n*2^m
 |0=>by show mE pg p m=_+0*_;exact("0Pa1obD)S7%#")
 |n+1=>by show mE pg p (m+n)+lz pg (p+(m+n))*2^(m+n)=mE pg p m+(mE pg (p+m) n+lz pg (p+m+n)*2^n)*2^m;rw[tG pg p m n,Nat.add_mul,Nat.mul_assoc,<-Nat.pow_add,kj n m,<-iy p m n,iy]
theorem Qb:∀b,b<256->b/2^0 % 2*2^0+b/2^1 % 2*2^1+b/2^2 % 2*2^2+b/2^3 % 2*2^3+b/2^4 % 2*2^4+b/2^5 % 2*2^5+b/2^6 % 2*2^6+b/2^7 % 2*2^7=b:=by decide+kernel
theorem zD(pg:Pg)(a:Nat):mE pg (8*a) 8=(pg.getD a 0).toNat:=by
 let e:∀i,i<8->lz pg (8*a+i)=(pg.getD a 0).toNat/2^i % 2:=λi hi=>by unfold lz;rw[show(8*a+i)/8=a by exact("%4`:GnaTlV[)4WHpqPZ`.M&#",hi,rfl),show(8*a+i) % 8=i by exact(",oJFi9dL4Qk{<Lp(0$so}Qg6tm?OJ'#",hi,by exact jN rfl rfl rfl)]
 show 0+lz pg (8*a+0)*2^0+lz pg (8*a+1)*2^1+lz pg (8*a+2)*2^2+lz pg (8*a+3)*2^3+lz pg (8*a+4)*2^4+lz pg (8*a+5)*2^5+lz pg (8*a+6)*2^6+lz pg (8*a+7)*2^7=_;rw[e 0 (""),e 1 (""),e 2 (""),e 3 (""),e 4 (""),e 5 (""),e 6 (""),e 7 (""),iq];exact Qb _<|jm _
theorem No(pg:Pg){p m a:Nat}(h:p+m=8*a):mE pg p m|||(pg.getD a 0).toNat*2^m=mE pg p (m+8):=by rw[Qa (rC pg p m),tG,h,zD]
theorem Qc(pg:Pg)(p n k:Nat):mE pg p (n+k)&&&(2^n-1)=mE pg p n:=by rw[Nat.and_two_pow_sub_one_eq_mod,tG,Nat.add_mul_mod_self_right,Nat.mod_eq_of_lt<|rC pg p n]
theorem Qd(pg:Pg)(p n k:Nat):mE pg p (n+k)/2^n=mE pg (p+n) k:=by rw[tG,Nat.add_mul_div_right _ _<|jT n,Nat.div_eq_of_lt<|rC pg p n,iq]
def RO(pg:Pg)(at_ left lH:Nat):AO:=.at [(80,.bytes pg),(5,.int at_),(34,.int left),(38,.int lH)]
def oA(H:AH)(rd d:bp)(pg:Pg)(p:Nat):Prop:=H rd=aq (.inst 109 d)/\H d=aq (RO pg ((p+7)/8) (mE pg p<|8*((p+7)/8)-p)<|8*((p+7)/8)-p)/\(p % 8=0∨p<=8*pg.length)
section
variable{H:AH}{rd d:bp}{pg:Pg}{p:Nat}{Q:V->AH->Prop}{E:AH->Prop}
theorem lb{p n a L:Nat}(ea:(p+n+7)/8=a)(e:a=(p+7)/8)(z:0<n)(r:p % 8=0∨p<=8*L):p+n<=8*L:=by
 have h1:p+n<=8*a:=("%+GN]9)E]iDSB/9UOP7I/}'#",ea,("%"));have h2:8*a<=p+7:=("*P;%<eCL)%jpKuk[ow$E&#",e,("%"));clear e ea;rcases r with r|r
 .obtain⟨k,rfl⟩:=Nat.dvd_of_mod_eq_zero r;have h3:a<=k:=("'uIR,(c%kL:9{Me%#",h2);exact absurd (gq h1<|Nat.mul_le_mul_left 8 h3)<|Nat.not_le_of_lt<|Nat.lt_add_of_pos_right z
 .have h3:a<=L:=("'X:aDH(CDc'2X'C<K`U&#",h2,r);exact gq h1<|Nat.mul_le_mul_left 8 h3
theorem qI(hr:oA H rd d pg p)(hl:pg.length<=100000){z:Int}{n:Nat}(hz:z=(n:Nat))(hn:n<=16)(h0:n=0->p<=8*pg.length)
  (h1:∀v p',nU pg n p=aq (v,p')->∀H',lY [d] H H'->oA H' rd d pg p'->Q (.int (v:Nat)) H')
  (h2:nU pg n p=aI->∀H',lY [d] H H'->E H'):mH 3 (.ref 92) [.ref rd,.int z] H Q E:=by
 subst hz;let r1:=hr.1;let r2:=hr.2.1;let r3:=hr.2.2;have DX:rd≠d:=λe=>by rw[e,r2]at r1;cases r1
 refine nS (n:=2) ze ye .nil rfl ?_;refine F0.tl [Option V,Nat] (λ_ x2 _=>[aq (.ref rd),aq<|.int (n:Nat),x2,aI,aI]) (λk _ a h=>A7 (h rd=aq (.inst 109 d)) ((p+7)/8<=a) (h d=aq (RO pg a (mE pg p<|8*a-p)<|8*a-p)) (lY [d] H h) (a=(p+7)/8∨a<=pg.length) (8*a<p+n+8)<|p+n+8<=k+8*a)
  (n+8) ⟨aI,_,⟨r1,dg _,r2,.refl,.inl rfl,("9S3Vx%_2.0ezd(k5C&#",rfl),("CtD4DM#eACO-Lz7}YH44&#",rfl)⟩,rfl⟩ ?_
 rintro k h K nx x2 a ⟨q1,q2,q3,q4,q5,q6,q7⟩;refine iL q1<|iL q3 ⟨λc=>?_,λc=>?_⟩
 .have c:=pN c;refine iL q1<|iL q3<|iL q1<|iL q3<|iM ("*}]<YdUA2s.-9?,:$#",hl)<|iQ (λc2=>?_) λc2=>?_
  .have c2:=pN c2;refine⟨rfl,zU.se,h2 (mT ?_) h q4⟩;exact("7LRLb8-R,`ZRSb|RzY#+nyg?bMgYx0U2(#",c,c2,rfl)
  .have c2:=pZ c2;have lt:a<pg.length:=("b#TBC7;)gZ%#",c2);have gb:qA pg (a:Int)=aq (pg.getD a 0):=by
    unfold qA;rw[mZ ("Ao/DVr$#"),show((a:Nat):Int).toNat=a by exact("s4RlOb-;:~iss%#",rfl),bU lt,bq,bU lt];rfl
   have b8:=jm<|pg.getD a 0;have ib:=jD (k:=(((pg.getD a 0).toNat:Nat):Int)) (".6mpl(FV)>vPFk;2.$#") ("RMWe[f=^4AVMDpT[;RUIO$#",b8);refine iL q1<|iL q3<|iL q1<|iL q3<|iL q1<|iL q3<|iM ⟨("Ao/DVr$#"),("*}]<YdUA2s.-9?,:$#",hl)⟩<|iS gb<|iL q1<|iL q3<|iM ⟨("Ao/DVr$#"),(";Fw9W<c}Yx,aM{bC*4}.qiWF&&#",hn,c,ib)⟩<|iL q1<|iL q3<|iM (ak rfl) ?_;have e1:kF ((mE pg p (8*a-p):Nat):Int) ((((pg.getD a 0).toNat:Nat):Int)*2^(((8*a-p:Nat):Int)).toNat)=((mE pg p (8*(a+1)-p):Nat):Int):=by rw[show(((8*a-p:Nat):Int)).toNat=8*a-p by exact("s4RlOb-;:~iss%#",rfl),sf,<-jE,Nn,No pg (("$(Id,w,kc/GR#BRcKrkjMqh2TX+}q3-e'#",q2,rfl,rfl):p+(8*a-p)=8*a),show 8*a-p+8=8*(a+1)-p by exact("+|co)LRF5~7QpN;:xQc<J*s1=AS;~h{u|u=Hz&A0-z(#",q2,rfl,rfl,rfl)]
   have w1:∀o,upd h d o rd=aq (.inst 109 d):=λo=>by rw[lV DX];exact q1
   have w2:∀o o',upd (upd h d o) d o' rd=aq (.inst 109 d):=λo o'=>by rw[lV DX];exact w1 o
   let w3:∀o o' o'',upd (upd (upd h d o) d o') d o'' rd=aq (.inst 109 d):=λo o' o''=>by rw[lV DX];exact w2 o o'
   refine iL (w1 _)<|iL (lT _ _ _)<|iL (w1 _)<|iL (lT _ _ _)<|iM (ak rfl) ?_;refine iL (w2 _ _)<|iL (lT _ _ _)<|iL (w2 _ _)<|iL (lT _ _ _)<|iM (ak rfl) ?_;refine nx (k-8) _ (")=mrk^7>C[lLrQ{o-Rx&eqK;*<FvyC*(#",q6,q7,rfl) x2 (a+1) ⟨w3 _ _ _,("$D-P6o),4.;%#",q2),?_,((q4.upd<|.head _).upd (.head _)).upd (.head _),.inr ("2J7:~2l~wnDB%#",c2),(")KQOu*rmec77dxN)$K1s-'fb#R#'#",c,rfl),(")`Nth>DT'=J:v{zciyStBb<4n[UId+=_M(#",q7,rfl)⟩;rw[lT];rw[e1,show((8*a-p:Nat):Int)+8=((8*(a+1)-p:Nat):Int) by exact(")FDaaXm}AQLXYa(A|,A#d2FMzzrkbP7Ij$i_c$iIr*6(#",q2,rfl,rfl,rfl)];rfl
 .have c:=pZ c;obtain⟨m,em⟩:∃m,8*a-p=n+m:=⟨8*a-p-n,("-6tLM1pkCD[5Cvz~X4l%p&#",c,rfl)⟩;have ea:(p+n+7)/8=a:=("%i..5bW|X/<%Q~#XfvWlD8q*5cP0JhidW0r_k-%(cNl`x]evYft,?$j*#",q2,q6,em,rfl,rfl,rfl);have el:p+n<=8*pg.length:=by
   rcases q5 with e|e
   .rcases jH n with z|z
    .let:=h0 z;exact("R:]GS)(Lv+|pAw?f^&#",z,this)
    .exact lb ea e z r3
   .exact("iRL??.M#rZCoyA$u%WIn3blNab(#",ea,e,rfl)
  have i1:=jD (k:=1) ("") ("");have pm:((1:Int)*2^(((n:Nat):Int)).toNat-1)=((2^n-1:Nat):Int):=by let:=jT n;rw[show(((n:Nat):Int)).toNat=n by exact("s4RlOb-;:~iss%#",rfl),sf];exact("&^7B&8WBD2*|Q:ILf7GQzX%#",this,rfl)
  have e1:jL ((mE pg p (8*a-p):Nat):Int) ((1:Int)*2^(((n:Nat):Int)).toNat-1)=((mE pg p n:Nat):Int):=by rw[pm,Kh,em,Qc]
  let e2:((mE pg p (8*a-p):Nat):Int)/2^(((n:Nat):Int)).toNat=((mE pg (p+n) m:Nat):Int):=by rw[show(((n:Nat):Int)).toNat=n by exact("s4RlOb-;:~iss%#",rfl),sf,<-Int.natCast_ediv,em,Qd]
  have w1:∀o,upd h d o rd=aq (.inst 109 d):=λo=>by rw[lV DX];exact q1
  have w2:∀o o',upd (upd h d o) d o' rd=aq (.inst 109 d):=λo o'=>by rw[lV DX];exact w1 o
  refine iL q1<|iL q3<|iM ⟨("Ao/DVr$#"),("(xeX._{D(uXy>lCg/emz#%#",hn,i1)⟩ ?_;refine iL q1<|iL q3<|iM ("Ao/DVr$#")<|iL q1<|iL q3<|iM (ak rfl) ?_;refine iL (w1 _)<|iL (lT _ _ _)<|iL (w1 _)<|iL (lT _ _ _)<|iM (ak rfl) ?_;rw[e1];refine h1 _ _ (mZ el) _ ((q4.upd<|.head _).upd (.head _)) ⟨w2 _ _,?_,.inr el⟩;rw[lT,ea];rw[e2,show((8*a-p:Nat):Int)-(n:Nat)=((8*a-(p+n):Nat):Int) by exact("ZU8S>NcCsdPtpQu(y&'af%}0C+34E`w7Bq+eMYzM>+AZVqk)#",ea,rfl,rfl,rfl),show m=8*a-(p+n) by exact("yxOvQmJr/nDXi{A{cy.R#{Wgwa#z_Ja5O[qE;OuYzy<os)#",em,rfl,rfl)];rfl
end
section
variable{H:AH}{rd d:bp}{pg:Pg}{p:Nat}{Q:V->AH->Prop}{E:AH->Prop}
theorem Qe(hr:oA H rd d pg p)(h:∀H',lY [d] H H'->oA H' rd d pg (8*((p+7)/8))->Q .none H'):mH 1 (.ref 99) [.ref rd] H Q E:=by
 let r1:=hr.1;let r2:=hr.2.1;let r3:=hr.2.2;have DX:rd≠d:=λe=>by let r1:=e▸r1;have r1:=r2▸r1;cases r1
 refine nS (n:=0) yg xz .nil rfl ?_;have w1:∀o,upd H d o rd=aq (.inst 109 d):=λo=>by rw[lV DX];exact r1
 let w2:∀o o',upd (upd H d o) d o' rd=aq (.inst 109 d):=λo o'=>by rw[lV DX];exact w1 o
 refine iL r1<|iL r2<|iM (ak rfl)<|iL (w1 _)<|iL (lT _ _ _)<|iM (ak rfl) ?_;refine h _ ((lY.refl.upd<|.head _).upd (.head _)) ⟨w2 _ _,?_,.inl ("'$hVWGnyWP;z6~8eOaB_?x&#",by exact jN rfl rfl rfl)⟩;rw[lT,show(8*((p+7)/8)+7)/8=(p+7)/8 by exact("P,k;+*LNH5b5UJY;c%#",rfl),iB];rfl
theorem Qf(hr:oA H rd d pg p)(hl:pg.length<=100000){z:Int}{n:Nat}(hz:z=(n:Nat))(hn:n<=100000)
  (h1:(p+7)/8+n<=pg.length->∀H',lY [d] H H'->oA H' rd d pg (8*((p+7)/8+n))->Q (.bytes ((pg.drop<|(p+7)/8).take n)) H')
  (h2:pg.length<(p+7)/8+n->∀H',lY [d] H H'->E H'):mH 3 (.ref 106) [.ref rd,.int z] H Q E:=by
 subst hz;let r1:=hr.1;let r2:=hr.2.1;refine nS (n:=2) At zh .nil rfl ?_;refine iL r1<|iL r2<|lw rfl ("")<|Qe hr λH1 k1 jj=>?_;let q1:=jj.1;let q2:=jj.2.1;rw[show(8*((p+7)/8)+7)/8=(p+7)/8 by exact("P,k;+*LNH5b5UJY;c%#",rfl),iB]at q2;have q2:H1 d=aq (RO pg ((p+7)/8) 0 0):=q2;have DX:rd≠d:=λe=>by rw[e,q2]at q1;cases q1
 revert h1 h2 q2;generalize(p+7)/8=a;intro h1 h2 q2;refine iL q1<|iL q2<|iL q1<|iL q2<|iM ("*}]<YdUA2s.-9?,:$#",hl)<|iQ (λc=>?_) λc=>?_
 .let c:=pN c;exact⟨rfl,zU.se,h2 ("$zi~6d&}:~4*F>&#",c) H1 k1⟩
 .let c:=pZ c;let sl:mK pg (aq ((a:Nat):Int)) (aq<|((a:Nat):Int)+(n:Nat))=(pg.drop a).take n:=Lc pg rfl ("qk-:yYB.aqF%#") ("C4~Ba4o_XuqF/h&#",c);refine iL q1<|iL q2<|iL q1<|iL q2<|iL q1<|iL q2<|iM ("*}]<YdUA2s.-9?,:$#",hl) ?_;refine iL q1<|iL q2<|iL q1<|iL q2<|iM (ak rfl) ?_;show Q (.bytes (mK pg (aq ((a:Nat):Int))<|aq<|((a:Nat):Int)+(n:Nat))) _;rw[sl];refine h1 ("C4~Ba4o_XuqF/h&#",c) _ (k1.upd<|.head _) ⟨by rw[lV DX];exact q1,?_,.inl ("33F)y.Qk)cw40M-LbrP]O#.s'#",by exact jN rfl rfl rfl)⟩;rw[lT,show(8*(a+n)+7)/8=a+n by exact(".8C|ZI)tLJF)?1_=cwwF[&#",rfl),iB];show aq (AO.at [_,(5,iR<|(a:Int)+(n:Nat)),_,_])=_;refine bF (show(a:Int)+(n:Nat)=((a+n:Nat):Int) by exact("qk-:yYB.aqF%#"))▸?_;rfl
end
inductive xI(ms:List bp)(H:AH)(x:bp)(bk:Bk):Prop
 |mk(dx c t:bp):x∉ms->dx∉ms->c∉ms->t∉ms->H x=aq (.inst 152 dx)->H dx=aq (.at [(76,.ref c),(70,.ref t)])->H c=aq (NL bk.1)->H t=aq (NL bk.2)->J5 bk.1 bk.2->xI ms H x bk
theorem xI.ok{ms:List bp}{H:AH}{x:bp}{bk:Bk}(h:xI ms H x bk):J5 bk.1 bk.2:=by cases h;assumption
theorem xI.keep{ms:List bp}{H H':AH}{x:bp}{bk:Bk}(k:lY ms H H')(h:xI ms H x bk):xI ms H' x bk:=by obtain⟨dx,c,t,n1,n2,n3,n4,h1,h2,h3,h4,h5⟩:=h;exact⟨dx,c,t,n1,n2,n3,n4,k _ _ h1 n1,k _ _ h2 n2,k _ _ h3 n3,k _ _ h4 n4,h5⟩
section
variable{H:AH}{rd d:bp}{pg:Pg}{p:Nat}{Q:V->AH->Prop}{E:AH->Prop}
theorem FM{ms:List bp}(hd:d∈ms){x:bp}{bk:Bk}(hx:xI ms H x bk)(hr:oA H rd d pg p)(hl:pg.length<=100000)
  (h1:∀v p',pG pg bk.1 bk.2 p=aq (v,p')->∀H',lY [d] H H'->oA H' rd d pg p'->Q (.int (v:Nat)) H')
  (h2:pG pg bk.1 bk.2 p=aI->∀H',lY [d] H H'->E H'):mH 4 (.ref 149) [.ref x,.ref rd] H Q E:=by
 refine nS (n:=3) yj xA .nil rfl ?_;refine iM (ak rfl)<|iP λa0 rR=>iL (lT _ _ _) ?_;let ok:=hx.ok;let k0:lY [d] H (upd H a0<|.tup [.int 0,.int 0,.int 0]):=lY.refl.new rR;let r0:oA (upd H a0<|.tup [.int 0,.int 0,.int 0]) rd d pg p:=⟨by refine bF (lV<|l9 hr.1 rR)▸?_;exact hr.1,by refine bF (lV<|l9 hr.2.1 rR)▸?_;exact hr.2.1,hr.2.2⟩;refine iM ("") (lq [Option V,Option V,Nat,Nat,Nat,Int,Int,Int] (λ_ x5 x6 _ _ _ z1 z2 z3=>[aq (.ref x),aq<|.ref rd,aq<|.int z1,aq<|.int z2,aq<|.int z3,x5,x6,aI,aI,aI]) (λi _ _ code first p' z1 z2 z3 h=>A8 (z1=code) (z2=first) (z3=ou bk.1 i) (i<=15) (oA h rd d pg p') (lY [d] H h) (first<=2*code)<|pG pg bk.1 bk.2 p=zW pg bk.1 bk.2 (15-i) (i+1) code first (ou bk.1 i) p') ⟨aI,aI,0,0,p,_,_,_,⟨rfl,rfl,rfl,by decide,r0,k0,dg _,rfl⟩,rfl⟩ ?_ ?_)
 .rintro i h K hi hK x5 x6 code first p' _ _ _ ⟨rfl,rfl,rfl,J6,q1,q2,q3,q4⟩
  have hi:i<15:=hi;let q4:=(show 15-i=(14-i)+1 by exact("N=52*-H|tfIG[X+M/z)tZ+[z47d&#",hi,rfl,rfl))▸q4;refine iM (uj ("") ("")) (iL q1.1<|iL q1.2.1<|lw rfl ("")<|qI (n:=1) q1 hl rfl ("") (λe=>by cases e) (λv p2 e2 H' k q=>?_) λe H' k=>?_)
  .let e3:=(take1 e2).1;let e4:=(take1 e2).2.1;let e5:=(take1 e2).2.2;let bl:=pD pg p';let q7:=q2.trans k;obtain⟨dx,c,t,n1,n2,n3,n4,Da,Ef,hc,ht,_⟩:=hx.keep (q7.more λy m=>by rw[aH.mp m];exact hd);have cl:i+1<bk.1.length:=by rw[ok.l];exact("$ER&T]j,H{A$#",hi)
   let ps:=qR cl;let pm:=tC bk.1 (i:=i+1) (j:=15) ("$EIa;+:tzgU$#",hi);let ob:=ok.s;let gc:=pE cl;let e1:(1:Int)+i=((i+1:Nat):Int):=("'p8Cwyyj[q($#");rw[e1];rw[qr,mZ ("*mU1)Dd}.EG1YD%#",e5),<-e3]at q4;refine iL Da<|iL Ef<|iL hc<|iS gc<|iQ (λrz=>?_) λrz=>?_
   .have rz:=pN rz;rw[mZ ("(hXP(BB%ap~Y~s0d3TH<N'#",rz)]at q4;let gt:=pE (l:=bk.2) (i:=ou bk.1 i+(2*code+v-first)) ("(5rf0u8jDYz-&|KP.f_[C3HOc&irX2]n4mIq]T)4l)*Lcrt,#",q3,ps,pm,ob,rz,rfl);let gt:=(show((ou bk.1 i+(2*code+v-first):Nat):Int)=(ou bk.1 i:Int)+((code:Int)*2+v)-first by exact("%j4rwuW?nR+[?vn[yb.t1hr.>rt.}/,GP$W(#",q3,rfl))▸gt;refine iL Da<|iL Ef<|iL ht<|iS gt ?_;let q:=e4▸q;exact h1 _ _ q4 _ q7 q
   .have rz:=pZ rz;rw[mT ("3D8>A3<I[.&#gx(b1&EJds'#",rz)]at q4;refine iM (uj ("") ("")) (hK _ _ _ (2*code+v) (2*(first+bk.1.getD (i+1) 0)) p2 _ _ _ ⟨("'vhDpP$%WLd)5yw%#"),("'vhDq0x5qgl)_&P%#"),by rw[ps];rfl,("$EIa;+:tzgU$#",hi),q,q7,("+2[?_Wzx>pQ'YaX=vCBgu6$hc7'#",rz),by rw[q4,ps,e4,show 15-(i+1)=14-i by exact("i5z[SsN,#kM[h;kwjL9._'}./%v{5t&#",rfl,rfl)]⟩)
  .let:=CD e;rw[qr,mT ("$Fm3${'N&$?R)NZ%#",this)]at q4;exact h2 q4 H'<|q2.trans k
 .rintro h x5 x6 code first p' _ _ _ ⟨rfl,rfl,rfl,J6,q1,q2,q3,q4⟩
  exact⟨rfl,zU.se,h2 q4 h q2⟩
end
inductive TabAt(ms:List bp)(H:AH)(a:bp)(f:Nat->Nat×Nat)(n:Nat):Prop
 |mk(ts:List bp):a∉ms->H a=aq (.list (ts.map jX))->ts.length=n->(∀k t,ts[k]?=aq t->t∉ms/\H t=aq (.tup [.int (f k).1,.int (f k).2]))->TabAt ms H a f n
theorem TabAt.keep{ms:List bp}{H H':AH}{a:bp}{f:Nat->Nat×Nat}{n:Nat}(k:lY ms H H')(h:TabAt ms H a f n):TabAt ms H' a f n:=by obtain⟨ts,n1,h1,h2,h3⟩:=h;exact⟨ts,n1,k _ _ h1 n1,h2,λj t e=>⟨(h3 j t e).1,k _ _ (h3 j t e).2 (h3 j t e).1⟩⟩
section
variable{H:AH}{Q:V->AH->Prop}{E:AH->Prop}
theorem Qg(h:∀a H',H a=aI->lY [] H H'->(∀ms:List bp,(∀x∈ms,H x≠aI)->TabAt ms H' a pf 30)->Q (.ref a) H'):mH 1 (.ref 62) [] H Q E:=by
 refine nS (n:=0) wt rA .nil rfl ?_;refine iM (ak rfl)<|iP λf hf=>iM (ak rfl)<|iP λt0 NH=>iL (lT _ _ _) ?_;let f0:upd (upd H f<|.list []) t0 (.tup [.ref f,.int 1]) f=aq (.list []):=by rw[lV (l9 (lT _ f _) NH)];exact lT _ _ _
 let k0:=((ly (ms:=[]) (H:=H)).new (o:=.list []) hf).new (o:=.tup [.ref f,.int 1]) NH;let step:∀i,i<30->(pf<|i+1).1=(pf i).1+2^(pf i).2/\(pf i).2=(if i<4 then 0 else i/2-1):=by decide
 refine iM ("") (lq [Option V,Option V,List bp,Int] (λ_ x2 x3 _ z=>[aq (.ref f),aq<|.int z,x2,x3,aI,aI]) (λi _ _ ts z h=>A6 (z=(pf i).1) (i<=30) (lY [] H h) (h f=aq (.list (ts.map jX))) (ts.length=i) (∀k t,ts[k]?=aq t->H t=aI/\h t=aq (.tup [.int (pf k).1,.int (pf k).2]))) ⟨aI,aI,[],_,⟨rfl,by decide,k0,f0,rfl,λk t e=>by exact pB e⟩,rfl⟩ ?_ ?_)
 .rintro i h K hi hK x2 x3 ts _ ⟨rfl,hi2,q1,q2,q3,q4⟩;let hi:i<30:=hi;obtain⟨s1,s2⟩:=step i hi
  let more:∀w:Int,w=((pf i).2:Nat)->(rZ).ev [aq (.ref f),aq<|.int (pf i).1,aq<|.int (0+i),aq<|.int w,aI,aI] h E K K Q:=λw hw=>by
   subst hw;let i1:=jD (k:=1) ("") ("");have b2:(pf i).2<=30:=by rw[s2];split<;>omega
   refine iL q2 (iM (ak rfl)<|iP λt ht=>iL (o:=.list (ts.map jX)) (by rw[lV (l9 q2 ht)];exact q2)<|iM (by rw[cF];exact("f76SRmDA<ZN]m[9o%#",q3,hi))<|iM ⟨("Ao/DVr$#"),("(xeX._{D:#lpI16(;E)2?%#",i1,b2)⟩<|hK _ _ _ (ts++[t]) _ ⟨?_,hi,(q1.new ht).oY hf,?_,?_,?_⟩)
   .rw[s1,show(((pf i).2:Nat):Int).toNat=(pf i).2 by exact("s4RlOb-;:~iss%#",rfl),sf];exact("6I0OZizb7+ygB%#")
   .rw[lT,i6];rfl
   .rw[cz,q3];rfl
   .intro k t' e;let ft:=l9 q2 ht;rcases aU k ts.length with c|c
    .have e:=(j3 c)▸e;let e1:=(q4 k t' e).1;let e2:=(q4 k t' e).2;have n1:t'≠f:=λq=>by let e2:=q▸e2;have e2:=q2▸e2;cases e2
     exact⟨e1,by rw[lV n1];refine bF (lV<|l9 e2 ht)▸?_;exact e2⟩
    .have e:=(jZ c)▸e;have:k-ts.length=0:=by
      rcases jH (k-ts.length)with z|z
      .exact z
      .rw[i8 (by show 1<=_;exact("(DW$wa'34$#",z))]at e;exact pB e
     rw[this]at e;obtain rfl:=qz e;have:k=i:=("tBzxplSd>9yT>)zML':q(rl1j7m'#",q3,c,this,rfl);subst this;exact⟨q1.F6 ht,by rw[lV ft.symm];exact lT _ _ _⟩
  refine iQ (λc=>more 0 ?_) λc=>iM ("")<|more _ ?_
  .have c:=pN c;rw[s2,mZ ("-t1Ss=1{2wE$#",c)];rfl
  .have c:=pZ c;rw[s2,mT ("Bz2B=`:9:P[&$#",c)];exact("4g[qD0OTQE1ddth[?[88U1n?C:Ghm-_'ya|-a)RC&$",c,("%"),("%"),rfl)
 .rintro h' x2 x3 ts _ ⟨rfl,hi2,q1,q2,q3,q4⟩;refine h f h' hf q1 λms hm=>⟨ts,λm=>hm f m hf,q2,q3,λk t e=>⟨λm=>hm t m (q4 k t e).1,(q4 k t e).2⟩⟩
end
section
variable{H:AH}{Q:V->AH->Prop}{E:AH->Prop}
theorem Qh(h:∀a H',H a=aI->lY [] H H'->(∀ms:List bp,(∀x∈ms,H x≠aI)->TabAt ms H' a nL 29)->Q (.ref a) H'):mH 1 (.ref 55) [] H Q E:=by
 refine nS (n:=0) ya rY .nil rfl ?_;refine iM (ak rfl)<|iP λf hf=>iM (ak rfl)<|iP λt0 NH=>iL (lT _ _ _) ?_;let f0:upd (upd H f<|.list []) t0 (.tup [.ref f,.int 3]) f=aq (.list []):=by refine bF (lV<|l9 (lT _ f _) NH)▸?_;exact lT _ _ _
 let k0:=((ly (ms:=[]) (H:=H)).new (o:=.list []) hf).new (o:=.tup [.ref f,.int 3]) NH;let step:∀i,i<28->(if i+1=28 then 259 else(nL<|i+1).1)=(nL i).1+2^(nL i).2/\(nL i).2=(if i<8 then 0 else i/4-1)/\(if i=28 then 259 else(nL i).1)=(nL i).1:=by decide
 have add:∀{h:AH}{ts:List bp}{t:bp}{i:Nat},lY [] H h->h f=aq (.list (ts.map jX))->ts.length=i->(∀k t,ts[k]?=aq t->H t=aI/\h t=aq (.tup [.int (nL k).1,.int (nL k).2]))->h t=aI->
   ∀k t',(ts++[t])[k]?=aq t'->H t'=aI/\upd (upd h t<|.tup [.int (nL i).1,.int (nL i).2]) f (.list (ts.map jX++[.ref t])) t'=aq (.tup [.int (nL k).1,.int (nL k).2]):=λ{h ts t i} q1 q2 q3 q4 ht k t' e=>by
  let ft:=l9 q2 ht;rcases aU k ts.length with c|c
  .let e:=(j3 c)▸e;let e1:=(q4 k t' e).1;let e2:=(q4 k t' e).2;have n1:t'≠f:=λq=>by let e2:=q▸e2;have e2:=q2▸e2;cases e2
   exact⟨e1,by rw[lV n1];refine bF (lV<|l9 e2 ht)▸?_;exact e2⟩
  .let e:=(jZ c)▸e;have:k-ts.length=0:=by
    rcases jH (k-ts.length)with z|z
    .exact z
    .rw[i8 (by show 1<=_;exact("(DW$wa'34$#",z))]at e;exact pB e
   let e:=this▸e;obtain rfl:=qz e;let:k=i:=("tBzxplSd>9yT>)zML':q(rl1j7m'#",q3,c,this,rfl);subst this;exact⟨q1.F6 ht,by rw[lV ft.symm];exact lT _ _ _⟩
 refine iM ("") (lq [Option V,Option V,List bp,Int] (λ_ x2 x3 _ z=>[aq (.ref f),aq<|.int z,x2,x3,aI,aI]) (λi _ _ ts z h=>A6 (z=((if i=28 then 259 else(nL i).1):Nat)) (i<=28) (lY [] H h) (h f=aq (.list (ts.map jX))) (ts.length=i) (∀k t,ts[k]?=aq t->H t=aI/\h t=aq (.tup [.int (nL k).1,.int (nL k).2]))) ⟨aI,aI,[],_,⟨rfl,by decide,k0,f0,rfl,λk t e=>by exact pB e⟩,rfl⟩ ?_ ?_)
 .rintro i h K hi hK x2 x3 ts _ ⟨rfl,hi2,q1,q2,q3,q4⟩;let hi:i<28:=hi;let s1:=(step i hi).1;let s2:=(step i hi).2.1;let s3:=(step i hi).2.2;rw[s3];let more:∀w:Int,w=((nL i).2:Nat)->(ti).ev [aq (.ref f),aq<|.int (nL i).1,aq<|.int (0+i),aq<|.int w,aI,aI] h E K K Q:=λw hw=>by
   subst hw;let i1:=jD (k:=1) ("") ("");have b2:(nL i).2<=30:=by rw[s2];split<;>omega
   refine iL q2 (iM (ak rfl)<|iP λt ht=>iL (o:=.list (ts.map jX)) (by rw[lV (l9 q2 ht)];exact q2)<|iM (by rw[cF];exact("f76SRmDA;s;.Ie`/%#",q3,hi))<|iM ⟨("Ao/DVr$#"),("(xeX._{D:#lpI16(;E)2?%#",i1,b2)⟩<|hK _ _ _ (ts++[t]) _ ⟨?_,hi,(q1.new ht).oY hf,?_,?_,add q1 q2 q3 q4 ht⟩)
   .rw[s1,show(((nL i).2:Nat):Int).toNat=(nL i).2 by exact("s4RlOb-;:~iss%#",rfl),sf];exact("6I0OZizb7+ygB%#")
   .rw[lT,i6];rfl
   .rw[cz,q3];rfl
  refine iQ (λc=>more 0 ?_) λc=>iM ("")<|more _ ?_
  .have c:=pN c;rw[s2,mZ ("-w/D[WT?te($#",c)];rfl
  .have c:=pZ c;rw[s2,mT ("C&^1qRtDu9'f$#",c)];exact("&0pxWchbN=bJPZ|m;+0N8pl(8/]dg`fr63pKb`:Td&$",c,("%"),("%"),rfl)
 .rintro h' x2 x3 ts _ ⟨rfl,hi2,q1,q2,q3,q4⟩;have q3:ts.length=28:=q3;refine iL q2 (iM (ak rfl)<|iP λt ht=>iL (o:=.list (ts.map jX)) (by rw[lV (l9 q2 ht)];exact q2)<|iM (by rw[cF];exact(".,6Z5ae-<7WM>$#",q3)) ?_);refine h f _ hf ((q1.new ht).oY hf) λms hm=>⟨ts++[t],λm=>hm f m hf,?_,by rw[cz,q3];rfl,λk t' e=>?_⟩
  .rw[lT,i6];rfl
  .let e1:=(add q1 q2 q3 q4 ht k t' e).1;let e2:=(add q1 q2 q3 q4 ht k t' e).2;exact⟨λm=>hm t' m e1,e2⟩
end
def ur(cnt:List Nat)(dist qw:Bool):Bool:=match qY cnt 15 1 1 with
 |none=>ag
 |some left=>left==0||(ou cnt 15==0&&dist)||(ou cnt 15==1&&cnt.getD 1 0==1&&qw)
section
variable{H:AH}{Q:V->AH->Prop}{E:AH->Prop}
theorem Qi{x dx c:bp}{cnt:List Nat}{dist qw:Bool}(hx:H x=aq (.inst 152 dx))(hd:H dx=aq (.at [(76,.ref c)]))(hc:H c=aq (NL cnt))(cl:cnt.length=16)
  (h1:ur cnt dist qw=af->∀H',lY [] H H'->Q .none H')(h2:ur cnt dist qw=ag->∀H',lY [] H H'->E H'):mH 3 (.ref 135) [.ref x,.bool dist,.bool qw] H Q E:=by
 refine nS (n:=2) Dr B1 .nil rfl ?_;refine iM (ak rfl)<|iP λa0 rR=>iL (lT _ _ _) ?_;have k0:=(ly (ms:=[]) (H:=H)).new (o:=.tup [.int 1,.int 0]) rR;let nb:∀{a:bp},a∉([]:List bp):=iN;let x0:=k0 _ _ hx nb;have d0:=k0 _ _ hd nb;let c0:=k0 _ _ hc nb;revert k0 x0 d0 c0;generalize upd H a0 (.tup [.int 1,.int 0])=H1;intro k0 x0 d0 c0;have raise:ur cnt dist qw=ag->(aq 45=aq G.bad/\xT (cx mU 3)/\E H1):=λe=>⟨rfl,zU.se,h2 e H1 k0⟩;refine iM ("") (lq [Option V,Nat,Int,Int] (λ_ x5 _ z1 z2=>[aq (.ref x),aq<|.bool dist,aq<|.bool qw,aq<|.int z1,aq<|.int z2,x5,aI,aI,aI]) (λi _ left z1 z2 h=>A6 (z1=left) (z2=ou cnt i) (i<=15) (h=H1) (left<=2^i)<|qY cnt 15 1 1=qY cnt (15-i) (i+1) left) ⟨aI,1,_,_,⟨rfl,rfl,by decide,rfl,by decide,rfl⟩,rfl⟩ ?_ ?_)
 .rintro i h K hi hK x5 left _ _ ⟨rfl,rfl,J6,rfl,q1,q2⟩;let hi:i<15:=hi;let p1:=zV (i:=i) ("(JP`>vRT4$#",hi);have ll:i+1<cnt.length:=by rw[cl];exact("$ER&T]j,H{A$#",hi)
  let e1:(1:Int)+i=((i+1:Nat):Int):=("'p8Cwyyj[q($#");let u:qY cnt ((14-i)+1) (i+1) left=if 2*left<cnt.getD (i+1) 0 then aI else qY cnt (14-i) (i+1+1) (2*left-cnt.getD (i+1) 0):=rfl
  let q2:=(show 15-i=(14-i)+1 by exact("N=52*-H|tfIG[X+M/z)tZ+[z47d&#",hi,rfl,rfl))▸q2;let q2:=u▸q2;rw[e1];let ps:=qR ll;refine iM (uj ("") (""))<|iL x0<|iL d0<|iL c0<|iS (pE ll)<|iL x0<|iL d0<|iL c0<|iS (pE ll)<|iQ (λe=>?_) λe=>?_
  .have e:=pN e;rw[mZ ("(UWrCqd9Y%'v1#g%#",e)]at q2;exact raise (by unfold ur;rw[q2])
  .have e:=pZ e;rw[mT ("2l$R%ZW:i,0aQziB%#",e)]at q2;exact hK _ _ (2*left-cnt.getD (i+1) 0) _ _ ⟨("8Fk]sS&Zj)y|E}u($bKGQ[-Fdyo5[&#",e,rfl),by rw[ps];rfl,("$EIa;+:tzgU$#",hi),rfl,by rw[jg];exact("/k~ETNzY:0Z5:w`c5S1:Cg'#",q1,rfl),by rw[q2,show 15-(i+1)=14-i by exact("i5z[SsN,#kM[h;kwjL9._'}./%v{5t&#",rfl,rfl)]⟩
 .rintro h x5 left _ _ ⟨rfl,rfl,J6,rfl,q1,q2⟩;let q2:qY cnt 15 1 1=aq left:=q2;have ce:ur cnt dist qw=(left==0||(ou cnt 15==0&&dist)||(ou cnt 15==1&&cnt.getD 1 0==1&&qw)):=by unfold ur;exact bF q2▸rfl
  let g1:=pE (l:=cnt) (i:=1) (by rw[cl];decide);have yes:ur cnt dist qw=af->Q .none h:=λe=>h1 e h k0;have last:left≠0->(ou cnt 15=0/\dist=af->False)->(yh).ev [aq (.ref x),aq<|.bool dist,aq<|.bool qw,aq<|.int (left:Nat),aq<|.int (ou cnt 15),x5,aI,aI,aI] h E (λ_ H=>Q .none H) (λ_ _=>False) Q:=λl0 nd=>by
   have no:(ou cnt 15=1/\cnt.getD 1 0=1/\qw=af->False)->ur cnt dist qw=ag:=λnl=>by
    rw[ce,eK];intro c;simp only[jV,cN,beq_iff_eq]at c;rcases c with(c|c)|c
    .exact l0 c
    .exact nd c
    .exact nl ⟨c.1.1,c.1.2,c.2⟩
   refine iQ (λc1=>iL x0<|iL d0<|iL c0<|iS g1<|iQ (λc2=>iQ (λc3=>lC<|yes ?_) λc3=>lD<|raise<|no λc=>?_) λc2=>lD<|raise<|no λc=>?_) λc1=>lD<|raise<|no λc=>?_
   .let c1:=pN c1;let c2:=pN c2;rw[ce];rw[c3];simp only[jV,cN,beq_iff_eq];exact .inr ⟨⟨("$ye*)ec1hl1E$#",c1),("$ye*)ec1hl1E$#",c2)⟩,trivial⟩
   .let c3:=c.2.2▸c3;exact Nu c3
   .let c2:=pZ c2;exact c2<|congrArg Int.ofNat c.2.1
   .let c1:=pZ c1;exact c1<|congrArg Int.ofNat c.1
  refine iQ (λc1=>yes ?_) λc1=>iQ (λc2=>iQ (λc3=>lC<|yes ?_) λc3=>lD<|last ?_ λc=>?_) λc2=>lD<|last ?_ λc=>?_
  .have c1:=pN c1;rw[ce];refine bF (show(left==0)=af from beq_iff_eq.mpr ("$ye*&js.1+bS$#",c1))▸?_;rfl
  .let c2:((ou cnt 15:Nat):Int)=0:=pN c2;rw[ce];refine bF (show(ou cnt 15==0)=af from beq_iff_eq.mpr ("$ye*&js.1+bS$#",c2))▸?_;rw[c3];simp
  .have c1:=pZ c1;exact("(R{;%gg}sudT($#",c1)
  .let c3:=c.2▸c3;exact Nu c3
  .let c1:=pZ c1;exact("(R{;%gg}sudT($#",c1)
  .let c2:¬((ou cnt 15:Nat):Int)=0:=pZ c2;exact c2<|congrArg Int.ofNat c.1
end
theorem Qj{α:Type}{f f':Nat->List α}{s k:Nat}{v:α}{l:List Nat}:l.Nodup->s∈l->(∀x,x≠s->f' x=f x)->f' s=(f s).set k v->k<(f s).length->(l.flatMap f).set (((l.takeWhile (·!=s)).flatMap f).length+k) v=l.flatMap f':=by
 induction l with
 |nil=>intro _ m;cases m
 |cons x l ih=>
  intro nd m h1 h2 h3;rw[fE]at nd;rw[jx,jx];by_cases e:x=s
  .subst e;have tw:(x::l).takeWhile (·!=x)=[]:=by simp
   rw[tw,List.flatMap_nil,cZ,iq,List.set_append_left _ _ h3,h2];congr 1;rw[jP,jP];exact congrArg List.flatten<|dU λy my=>(h1 y λc=>nd.1<|c▸my).symm
  .have tw:(x::l).takeWhile (·!=s)=x::l.takeWhile (·!=s):=by rw[List.takeWhile_cons,mZ (by simp[e])]
   have m':s∈l:=(aA.mp m).resolve_left λc=>e c.symm;rw[tw,jx,cz,iy,ku _ _ ("}KG2C;P$M&#"),jJ,ih nd.2 m' h1 h2 h3,h1 x e]
def ss(lU:List Nat)(i s:Nat):List Nat:=(gk i).filter λk=>lU.getD k 0==s
def zE(lU:List Nat)(i s:Nat):List Nat:=ss lU i (s+1)++iT (lU.count (s+1)-(ss lU i<|s+1).length) 0
def zF(lU:List Nat)(i:Nat):List Nat:=(gk 15).flatMap (zE lU i)
theorem tH(lU:List Nat)(i s:Nat):ss lU (i+1) s=ss lU i s++(if lU.getD i 0==s then[i]else[]):=by unfold ss;rw[kr,List.filter_append];congr 1;rw[List.filter_cons,List.filter_nil]
theorem Ss(lU:List Nat):zF lU lU.length=oO lU:=by unfold zF oO u9;rw[List.map_flatMap,jP,jP];refine congrArg List.flatten<|dU λs _=>?_;unfold zE;let e:ss lU lU.length (s+1)=idxs lU (s+1):=rfl;rw[e,CG,iB,List.replicate_zero,ju,cO];exact(List.map_id _).symm
theorem Qk{s n:Nat}(h:s<n):(gk n).takeWhile (·!=s)=gk s:=by obtain⟨m,rfl⟩:∃m,n=s+(m+1):=⟨n-s-1,("$C_=x|]*kScwM]T7[s+pmqZF<F,y{WR'#",h,("%"),rfl)⟩;rw[List.range_add,List.takeWhile_append_of_pos (λx m=>by let:=jy.mp m;simp;exact("$3Yo_i0tJ?o%#",this))];rw[List.range_succ_eq_map,bS,List.takeWhile_cons];simp
theorem FO(lU:List Nat)(i s:Nat)(h:i<=lU.length):(ss lU i s).length<=lU.count s:=by rw[<-CG];unfold ss idxs;obtain⟨m,e⟩:∃m,lU.length=i+m:=⟨lU.length-i,("uqIOC$&3$[WR-DK%#1:&#",h,rfl)⟩;rw[e,List.range_add,List.filter_append,cz];exact jz _ _
theorem Lm(lU:List Nat)(i s:Nat)(h:i<=lU.length):(zE lU i s).length=lU.count (s+1):=by unfold zE;let:=FO lU i (s+1) h;rw[cz,jv];exact("uoe$$_~q5$)jW0Tr376&#",this,rfl)
theorem FP{lU:List Nat}{i:Nat}(hi:i<=lU.length):∀s,s<=15->((gk s).flatMap (zE lU i)).length=ou (nH lU) s
 |0,_=>rfl
 |s+1,h=>by rw[kr,List.flatMap_append,cz,FP hi s ("$EI]|+]6V=b$#",h),qR (by rw[rO,bO,cF,iU];exact("*m]Om4-{eig1tx$#",h)),CH ("$EI]~1oQ{Vr$#",h)];congr 1;rw[jx,List.flatMap_nil,ju,Lm lU i s hi]
theorem Ql{lU:List Nat}{i:Nat}(hi:i<lU.length)(h1:0<lU.getD i 0)(CS:lU.getD i 0<=15):
  (zF lU i).set (ou (nH lU) (lU.getD i 0-1)+(ss lU i<|lU.getD i 0).length) i=zF lU (i+1):=by
 obtain⟨s,es⟩:∃s,lU.getD i 0=s+1:=⟨lU.getD i 0-1,("76|dlQ}`xZQgTBrAcz3%#",h1,rfl)⟩;rw[es]at h1 CS⊢;rw[kH];have lt:(ss lU i<|s+1).length<lU.count (s+1):=by have:=FO lU (i+1) (s+1) hi;rw[tH,es,mZ<|beq_self_eq_true _,cz]at this;exact this
 let tw:=Qk (s:=s) (n:=15) ("$EI]~1oQ{Vr$#",CS);let fs:=Qj (f:=zE lU i) (f':=zE lU<|i+1) (s:=s) (k:=(ss lU i<|s+1).length) (v:=i) (l:=gk 15) List.nodup_range (jy.mpr ("$EI]~1oQ{Vr$#",CS)) (λx hx=>?_) ?_ (by rw[Lm lU i s ("(Dx}*=w{B%#",hi)];exact lt)
 .rw[tw,FP ("(Dx}*=w{B%#",hi) s ("$EI]|+]6V=b$#",CS)]at fs;exact fs
 .unfold zE;let:ss lU (i+1) (x+1)=ss lU i (x+1):=by
   rw[tH,es,mT (by simp;exact("%G[l{#Bxies>/%#",hx)),ju]
  rw[this]
 .unfold zE;rw[tH,es,mZ<|beq_self_eq_true _,ku _ _<|dg _,iB,cz];obtain⟨m,em⟩:∃m,lU.count (s+1)-(ss lU i<|s+1).length=m+1:=⟨lU.count (s+1)-(ss lU i<|s+1).length-1,("$t0/c7XY.76v:me~rS^zb&s1+3Z+'#",lt,rfl,rfl)⟩;rw[em,dO,List.set_cons_zero,List.append_assoc,show lU.count (s+1)-((ss lU i<|s+1).length+[i].length)=m by simp;exact("*M9P~6vWh'.jy<]eBn,rd3m{U~h?Gj?,H^kw>C(#",em,rfl,rfl)];rfl
theorem CU{f:Nat->List Nat}:∀{l:List Nat},(∀x∈l,f x=iT (f x).length 0)->l.flatMap f=iT (l.flatMap f).length 0
 |[],_=>rfl
 |x::l,h=>by rw[jx,cz,List.replicate_append_replicate.symm,<-h x (.head _),<-CU λy m=>h y<|.tail _ m]
theorem Qm(lU:List Nat):zF lU 0=iT (ou (nH lU) 15) 0:=by rw[<-FP (aR lU.length) 15 (dg _)];refine CU λx _=>?_;unfold zE;rw[show ss lU 0 (x+1)=[]from rfl,List.nil_append,jv]
theorem Su{lU:List Nat}{i:Nat}(h:i<=lU.length):(zF lU i).length=ou (nH lU) 15:=FP h 15<|dg _
theorem map_set{n k v:Nat}{f f':Nat->Nat}(h:∀x,x≠k->f' x=f x)(hk:f' k=v):((gk n).map f).set k v=(gk n).map f':=by
 refine jK λj=>?_;rw[j8,cF,iU,cj,cj];by_cases e:k=j
 .subst e;rw[mZ rfl];by_cases l:k<n
  .rw[mZ l];rw[jb l];refine hk▸?_;rfl
  .rw[mT l,i8 (by rw[iU];exact("zl)*M|~1N%#",l))];rfl
 .rw[mT e];cases q:(gk n)[j]? with
  |none=>rfl
  |some x=>
   let:=(bZ.mp q).2;rw[List.getElem_range]at this;rw[fH,fH,h x ("sW(<ya_{k0yi#g8GU&#",e,this)]
theorem yC{n k:Nat}{f:Nat->Nat}(h:k<n):((gk n).map f).getD k 0=f k:=by refine bF bq▸?_;refine bF cj▸?_;rw[jb h];rfl
theorem FS{H:AH}{K:V->AH->Prop}{a:bp}{z:Int}{n:Nat}(hz:z=(n:Nat))(hn:n<=1000000)(ha:H a=aq (.list [.int 0]))(h:∀b,H b=aI->K (.ref b) (upd H b<|NL<|iT n 0)):EP .Mult (.ref a) K (.int z) H:=by
 subst hz;refine iL ha (iM ⟨⟨("(ZvIuSc<&0zh4^wan$#"),("(s^%K7%x'f1H)&WkiSALR#^$#",hn)⟩,by simp only[jw];exact("$o;`&4^K&ibLoZ+{dTp4X1>a%#",hn,rfl)⟩<|iP λb hb=>?_);let e:qa ((n:Nat):Int).toNat [.int 0]=(iT n 0).map λ(n:Nat)=>iR n:=by rw[i9,<-HV];exact rP [0] n
 rw[e];exact h b hb
theorem EE{l:List Nat}{z w:Int}{k v:Nat}(hz:z=(k:Nat))(hw:w=(v:Nat)):jr ((l.map λ(n:Nat)=>iR n).set z.toNat (.int w))=NL (l.set k v):=by subst hz hw;rw[i9];exact CL l k v
theorem FT{lU:List Nat}{i s:Nat}(h:lU.getD i 0≠s):ss lU (i+1) s=ss lU i s:=by rw[tH,mT (by rw[beq_iff_eq];exact h),ju]
theorem Id{lU:List Nat}{i s:Nat}(h:lU.getD i 0=s):(ss lU (i+1) s).length=(ss lU i s).length+1:=by rw[tH,mZ (by rw[beq_iff_eq];exact h),cz];rfl
def sA(lU:List Nat)(i s:Nat):Nat:=if s=0 then 0 else ou (nH lU) (s-1)+(ss lU i s).length
def FU(lU:List Nat)(i s:Nat):Nat:=if s<=i+1 then ou (nH lU) (s-1)else 0
theorem Qn{lU:List Nat}{i:Nat}(h:i+1<(nH lU).length):((gk 17).map (FU lU i)).set (i+2) (ou (nH lU) i+(nH lU).getD (i+1) 0)=(gk 17).map (FU lU<|i+1):=by
 refine map_set (λy hy=>?_) ?_
 .unfold FU;by_cases c:y<=i+1
  .rw[mZ c,mZ ("*mYq(#DsuYDqB9%#",c)]
  .rw[mT c,mT ("_0Nxku$Gg9H|Hz`i{h,D{R%#",hy,c)]
 .unfold FU;refine bF (mZ<|dg _)▸?_;exact qR h
theorem Np(lU:List Nat):(gk 17).map (FU lU 15)=(gk 17).map (sA lU 0):=by refine dU λy hy=>?_;have:=jy.mp hy;unfold FU sA;rw[mZ ("$D-zkKZ]t}8$#",this)];cases y<;>rfl
theorem Sv(lU:List Nat):sA lU 0 16=ou (nH lU) 15:=by unfold sA;rw[mT (""),show ss lU 0 16=[]from rfl,cZ,Nat.add_zero]
theorem Qo{lU:List Nat}{i:Nat}(h:0<lU.getD i 0):((gk 17).map (sA lU i)).set (lU.getD i 0) (sA lU i (lU.getD i 0)+1)=(gk 17).map (sA lU<|i+1):=by
 let n0:lU.getD i 0≠0:=("zlk:2x=_r$#",h);refine map_set (λy hy=>?_) ?_
 .unfold sA;exact bF (FT hy.symm)▸rfl
 .unfold sA;rw[Id rfl];rw[mT n0];rw[mT n0];rfl
theorem VC{lU:List Nat}{i:Nat}(h:lU.getD i 0=0):sA lU (i+1)=sA lU i:=by
 funext y;unfold sA;cases y with
 |zero=>rfl
 |succ y=>rw[FT ("p,`6[<dm-m(3%#",h)]
theorem Qq{lU:List Nat}{i:Nat}(h:lU.getD i 0=0):zF lU (i+1)=zF lU i:=by
 let:zE lU (i+1)=zE lU i:=by funext y;unfold zE;rw[FT ("p,`6[<dm-m(3%#",h)]
 unfold zF;exact bF this▸rfl
theorem Sw{lU:List Nat}{i:Nat}(hi:i<lU.length)(h1:0<lU.getD i 0)(CS:lU.getD i 0<=15):(zF lU i).set (sA lU i<|lU.getD i 0) i=zF lU (i+1):=by refine Ql hi h1 CS▸?_;unfold sA;rw[mT ("zlk:2x=_r$#",h1)]
theorem Sx{lU:List Nat}{i:Nat}(hi:i<lU.length)(h1:0<lU.getD i 0)(CS:lU.getD i 0<=15):sA lU i (lU.getD i 0)<ou (nH lU) 15:=by obtain⟨s,es⟩:∃s,lU.getD i 0=s+1:=⟨lU.getD i 0-1,("76|dlQ}`xZQgTBrAcz3%#",h1,rfl)⟩;let le:=FO lU (i+1) (s+1) hi;rw[Id es]at le;rw[es]at CS⊢;unfold sA;rw[mT (Nat.succ_ne_zero _),kH];let ps:=qR (cnt:=nH lU) (i:=s) (by rw[rO,bO,cF,iU];exact("*m]Om4-{eig1tx$#",CS));rw[CH ("$EI]~1oQ{Vr$#",CS)]at ps;have:=tC (nH lU) (i:=s+1) (j:=15) ("C5M4J7*[_aq<$#",CS);exact("%63J:$]51(P9j]R}zjp`C.(#",le,ps,this)
section
variable{H:AH}{Q:V->AH->Prop}{E:AH->Prop}
theorem Qr{x dx c l:bp}{lU:List Nat}(hx:H x=aq (.inst 152 dx))(hd:H dx=aq (.at [(76,.ref c)]))(hc:H c=aq (NL<|nH lU))(hl:H l=aq (NL lU))(hn:lU.length<=900)(hb:∀x∈lU,x<=15)
  (h_:∀r H',H r=aI->lY [] H H'->H' r=aq (NL<|oO lU)->Q (.ref r) H'):mH 1 (.ref 142) [.ref x,.ref l] H Q E:=by
 refine nS (n:=0) vD uG .nil rfl ?_;refine iM (ak rfl)<|iP λa0 rR=>?_;refine FS (n:=17) rfl ("") (lT _ _ _) λb PW=>?_;have k1:=(ly (ms:=[]) (H:=H)).new (o:=.list [.int 0]) rR;have bn:=k1.F6 PW;let k2:=k1.new (o:=NL<|iT 17 0) PW;let b2:=lT (upd H a0<|.list [.int 0]) b<|NL<|iT 17 0;revert k2 b2;generalize upd (upd H a0<|.list [.int 0]) b (NL<|iT 17 0)=H2;intro k2 b2;clear k1 PW rR;let nm:∀{y:bp},y∉([]:List bp):=iN;have cl:(nH lU).length=16:=(HF hn hb).l;refine iM ("") (lq [Option V] (λ_ x3=>[aq (.ref x),aq<|.ref l,aq<|.ref b,x3,aI,aI,aI,aI,aI]) (λi _ h=>A3 (i<=15) (lY [] H h)<|h b=aq (NL<|(gk 17).map (FU lU i)))
  ⟨aI,⟨by decide,k2,b2⟩,rfl⟩ ?_ ?_)
 .intro i h K hi nx x3 jj;let q1:=jj.2;let q2:=jj.3;let hi:i<15:=hi;let e1:(1:Int)+i=((i+1:Nat):Int):=("'p8Cwyyj[q($#");rw[e1];refine iL q2 (iS (pE (by rw[cF,iU];exact("$EZHn23/Inh$#",hi)))<|iL (q1 _ _ hx nm)<|iL (q1 _ _ hd nm)<|iL (q1 _ _ hc nm)<|iS (pE (")$Ny;F]f]uF/6v?%#",cl,hi))<|iL q2<|iM ⟨?_,?_⟩<|nx _ _ ⟨hi,q1.oY bn,?_⟩)
  .exact("$vfFFV+<gM$#")
  .rw[cF,cF,iU];exact("97;BkpSV^a}U:$#",hi)
  .rw[lT,yC ("$EZHn23/Inh$#",hi)];refine congrArg aq<|(EE (k:=i+2) ("$7'Ah&;tsq~ub$#") ?_).trans (congrArg NL<|Qn (")$Ny;F]f]uF/6v?%#",cl,hi));rw[show FU lU i (i+1)=ou (nH lU) i from mZ<|dg _];rfl
 .intro h x3 jj;let q1:=jj.2;let q2:=jj.3;let q2:h b=aq (NL<|(gk 17).map (FU lU 15)):=q2;rw[Np]at q2;refine iM (ak rfl)<|iP λa1 wR=>?_;let ba:=l9 q2 wR;let g16:=pE (l:=(gk 17).map (sA lU 0)) (i:=16) (by rw[cF,iU];decide);rw[yC (""),Sv]at g16;refine iL ((lV ba).trans q2)<|iS g16 ?_;let sl:=vT lU;let sm:=(HF hn hb).m;refine FS (n:=ou (nH lU) 15) rfl ("j8>4yw;4n)p[y^.I<a%#",sl,sm) (lT _ _ _) λr hr=>?_;let k3:=q1.new (o:=.list [.int 0]) wR;have rn:=k3.F6 hr;have br:=l9 (a:=b) (o:=NL<|(gk 17).map (sA lU 0)) (by rw[lV ba];exact q2) hr;let k4:=k3.new (o:=NL<|iT (ou (nH lU) 15) 0) hr;let r4:=lT (upd h a1<|.list [.int 0]) r<|NL<|iT (ou (nH lU) 15) 0;let b4:upd (upd h a1<|.list [.int 0]) r (NL<|iT (ou (nH lU) 15) 0) b=aq (NL<|(gk 17).map (sA lU 0)):=by rw[lV br,lV ba];exact q2
  revert k4 r4 b4;generalize upd (upd h a1<|.list [.int 0]) r (NL<|iT (ou (nH lU) 15) 0)=H4;intro k4 r4 b4;clear k3 hr wR q1 q2;refine iL (k4 _ _ hl nm) (xR.tl [Option V,Option V] (λ_ x3 x5=>[aq (.ref x),aq<|.ref l,aq<|.ref b,x3,aq<|.ref r,x5,aI,aI,aI]) (λi _ _ h=>A3 (lY [] H h) (h b=aq (NL<|(gk 17).map (sA lU i)))<|h r=aq (NL<|zF lU i))
   ⟨_,aI,⟨k4,b4,by rw[Qm];exact r4⟩,rfl⟩ (λi h _ _ j=>j.h1 _ _ hl nm) ?_ ?_)
  .intro i h y tt K hy HW nx x3 x5 jj;let k:=jj.1;let q1:=jj.2;let q2:=jj.3;obtain⟨lt,rfl⟩:=qC hy;let bt:=l9 q1 HW;let rt:=l9 q2 HW;let k':=k.new (o:=.tup [.int i,.int (lU.getD i 0:Nat)]) HW;have Vx:upd h tt (.tup [.int i,.int (lU.getD i 0:Nat)]) b=aq (NL<|(gk 17).map (sA lU i)):=by rw[lV bt];exact q1
   have Vt:upd h tt (.tup [.int i,.int (lU.getD i 0:Nat)]) r=aq (NL<|zF lU i):=by rw[lV rt];exact q2
   refine iL (lT _ _ _) ?_;revert k' Vx Vt;generalize upd h tt (.tup [.int i,.int (lU.getD i 0:Nat)])=h5;intro k' Vx Vt;have CS:lU.getD i 0<=15:=by rw[bq,bU lt];exact hb _<|i7 _
   refine iQ (λc=>?_) λc=>?_
   .have c:0<lU.getD i 0:=by let:=pN c;exact("NuS/|py:x$#",this)
    let lb:=Sx lt c CS;let bl:=Su<|aP lt;let rb:r≠b:=br.symm;have ml:lU.getD i 0<((gk 17).map (sA lU i)).length:=by rw[cF,iU];exact("(Jri_kI.d$#",CS)
    refine iL Vx<|iS (pE ml)<|iL Vt<|iM ⟨("Ao/DVr$#"),?_⟩ ?_
    .rw[cF,bl,yC ("(Jri_kI.d$#",CS)];exact("&nKxC[NYJV%#",lb)
    .let qb:∀o,upd h5 r o b=aq (NL<|(gk 17).map (sA lU i)):=λo=>by rw[lV br];exact Vx
     refine iL (qb _) ?_;refine iS (pE ml) ?_;refine iL (qb _)<|iM ⟨("Ao/DVr$#"),?_⟩<|nx _ _ _ ⟨(k'.oY rn).oY bn,?_,?_⟩
     .rw[cF];exact("&nKxC[NYJV%#",ml)
     .rw[lT,yC ("(Jri_kI.d$#",CS)];exact congrArg aq<|(EE (k:=lU.getD i 0) rfl rfl).trans (congrArg NL<|Qo c)
     .rw[lV rb,lT,yC ("(Jri_kI.d$#",CS)];exact congrArg aq<|(EE rfl rfl).trans (congrArg NL<|Sw lt c CS)
   .have c:lU.getD i 0=0:=by let:=pZ c;exact("ObSB1G3_LCO$#",this)
    exact nx _ _ _ ⟨k',by rw[VC c];exact Vx,by rw[Qq c];exact Vt⟩
  .intro h x3 x5 jj;let k:=jj.1;let q1:=jj.2;let q2:=jj.3;rw[cF,Ss]at q2;exact h_ r h rn k q2
end
theorem Qs:uo []=iT 16 0:=by decide
theorem getD_mem{l:List Nat}{i:Nat}(h:i<l.length):l.getD i 0∈l:=by refine bF bq▸?_;rw[bU h];exact i7 _
section
variable{H H3:AH}{Q:V->AH->Prop}{E:AH->Prop}{x dx l c:bp}{lU:List Nat}{dist qw:Bool}{x4:Option V}
abbrev TH(x l:bp)(dist qw:Bool)(x4:Option V):Loc:=[aq (.ref x),aq<|.ref l,aq<|.bool dist,aq<|.bool qw,x4,aI,aI]
def Yj(dist qw:Bool)(lU:List Nat)(dx:bp)(H:AH)(Q:V->AH->Prop)(E:AH->Prop):Prop:=
 (ur (nH lU) dist qw=af->∀H' c t,lY [dx] H H'->H c=aI->H t=aI->H' dx=aq (.at [(76,.ref c),(70,.ref t)])->H' c=aq (NL<|nH lU)->H' t=aq (NL<|oO lU)->Q .none H')/\
 (ur (nH lU) dist qw=ag->∀H',lY [dx] H H'->E H')
theorem VD(hx:H x=aq (.inst 152 dx))(nx:x∉[dx])(hl:H l=aq (NL lU))(nl:l∉[dx])(cn:H c=aI)(hd:dx≠c)(hn:lU.length<=900)(hb:∀x∈lU,x<=15)
  (k:lY [dx] H H3)(d3:H3 dx=aq (.at [(76,.ref c)]))(c3:H3 c=aq (NL<|nH lU))(h:Yj dist qw lU dx H Q E):(zO).ev (TH x l dist qw x4) H3 E (λ_ H=>Q .none H) (λ_ _=>False) Q:=by
 let nm:∀{y:bp},y∉([]:List bp):=iN;have x3:=k _ _ hx nx;refine iL x3<|iL d3<|lw rfl ("")<|Qi x3 d3 c3 (HF hn hb).l (λe H4 k4=>?_) λe H4 k4=>h.2 e _<|k.trans<|k4.more λ_ m=>(nm m).elim;let x4:=k4 _ _ x3 nm;have d4:=k4 _ _ d3 nm;refine iL x4<|iL d4<|lw rfl ("")<|Qr x4 d4 (k4 _ _ c3 nm) (k4 _ _ (k _ _ hl nl) nm) hn hb λr H5 rn k5 hr=>?_;let d5:=k5 _ _ d4 nm;let Y0:=k4.trans k5;have dr:=l9 d4 rn;refine iL (k5 _ _ x4 nm)<|iL d5<|iM (ak rfl)<|h.1 e _ c r ((k.trans<|Y0.more λ_ m=>(nm m).elim).upd (.head _)) cn ?_ (lT _ _ _) ?_ ?_
 .cases q:H r with
  |none=>rfl
  |some o=>
   let:=(k.trans<|k4.more λ_ m=>(nm m).elim) r o q λm=>dr (aH.mp m).symm;let this:=rn▸this;exact pB this
 .rw[lV hd.symm];exact Y0 _ _ c3 nm
 .rw[lV dr.symm];exact hr
theorem Qt(hx:H x=aq (.inst 152 dx))(hd:H dx=aq (.at []))(hl:H l=aq (NL lU))(hn:lU.length<=900)(hb:∀x∈lU,x<=15)(h:Yj dist qw lU dx H Q E):
  (qU).ev (sH nE [.ref x,.ref l,.bool dist,.bool qw]) H E (λ_ H=>Q .none H) (λ_ _=>False) Q:=by
 refine iM (ak rfl)<|iP λa0 rR=>?_;refine FS (n:=16) rfl ("") (lT _ _ _) λc hc=>?_;have nx:x∉[dx]:=λm=>by rw[aH.mp m,hd]at hx;cases hx
 have nl:l∉[dx]:=λm=>by rw[aH.mp m,hd]at hl;cases hl
 have cn:=lY.F6 (lY.refl.new rR) hc;have dc:=l9 hd cn;let k2:lY [dx] H (upd (upd H a0<|.list [.int 0]) c<|NL<|iT 16 0):=(lY.refl.new rR).new hc;refine iL (k2 _ _ hx nx) (iL (o:=.at []) (by rw[lV dc,lV<|l9 hd rR];exact hd)<|iM (ak rfl) ?_);let k3:=k2.upd (o:=.at [(76,.ref c)])<|.head _;let c3:upd (upd (upd H a0<|.list [.int 0]) c<|NL<|iT 16 0) dx (.at [(76,.ref c)]) c=aq (NL<|uo<|lU.take 0):=by rw[lV dc.symm,lT,kC,Qs]
 refine iL (k3 _ _ hl nl)<|sG.tl [Option V] (λ_ x4=>TH x l dist qw x4) (λi _ h=>A3 (lY [dx] H h) (h dx=aq (.at [(76,.ref c)]))<|h c=aq (NL<|uo<|lU.take i)) ⟨aI,⟨k3,lT _ _ _,c3⟩,rfl⟩ (λi h _ j=>j.h1 _ _ hl nl) ?_ ?_
 .intro i h y K hy nz x4 jj;let k:=jj.1;let q1:=jj.2;let q2:=jj.3;obtain⟨lt,rfl⟩:=qC hy;let CS:=hb _<|getD_mem lt;let gl:lU.getD i 0<(uo<|lU.take i).length:=by rw[sj];exact("(JP`H*{or$#",CS)
  let rd:=k _ _ hx nx;refine iQ (λe=>?_) λe=>iQ (λe=>?_) λe=>?_
  .let:=pN e;exact(kO 0x29a0100c821 ("$") this).elim
  .let:=pN e;exact(kO 0x29a00cf28f200041 ("$") CS this).elim
  .refine lD (iL rd<|iL q1<|iL q2<|iS (pE gl)<|iL q2<|iM ⟨("Ao/DVr$#"),?_⟩<|nz _ _ ⟨k.oY cn,by rw[lV dc];exact q1,?_⟩)
   .rw[cF,sj];exact("&rG{rgh+`.$#",CS)
   .rw[lT,uq lt,<-Er ("(JP`H*{or$#",CS)];exact congrArg aq<|EE rfl rfl
 .intro h' x4 jj;let k:=jj.1;let q1:=jj.2;let q2:=jj.3;rw[cF,js]at q2;refine iL (k _ _ hx nx)<|iL q1<|iL q2<|iM ⟨("naxB}##"),?_⟩<|VD hx nx hl nl cn dc hn hb (k.oY cn) ?_ ?_ h
  .rw[cF,sj];decide
  .rw[lV dc];exact q1
  .rw[lT];exact congrArg aq<|EE (k:=0) (v:=0) rfl rfl
def Sy(dist qw:Bool)(lU:List Nat)(H:AH)(Q:V->AH->Prop)(E:AH->Prop):Prop:=
 (ur (nH lU) dist qw=af->∀H' x,H x=aI->lY [] H H'->(∀ms:List bp,(∀y∈ms,H y≠aI)->xI ms H' x (qF lU))->Q (.ref x) H')/\
 (ur (nH lU) dist qw=ag->∀H',lY [] H H'->E H')
theorem CV{args:List V}(hl:H l=aq (NL lU))(hn:lU.length<=900)(hb:∀x∈lU,x<=15)(h:Sy dist qw lU H Q E)
  (hf:∀{x:bp}{H:AH}{Q:V->AH->Prop}{E:AH->Prop},(qU).ev (sH nE [.ref x,.ref l,.bool dist,.bool qw]) H E (λ_ H=>Q .none H) (λ_ _=>False) Q->mH 4 (.ref 128) (.ref x::args) H Q E):mH 5 (.ref 152) args H Q E:=by
 refine BA (C:=152) (fI:=128) (n:=4) (zU.Ω<|.tail _ (.head _)) (Pm _) (zU.fn<|.tail _ (.tail _ (.head _))) λdx x dn xn ne=>hf ?_;have k0:=((ly (ms:=[]) (H:=H)).new (o:=.at []) dn).oY (o:=.inst 152 dx) xn;have un:∀{H':AH},lY [dx] (upd (upd H dx<|.at []) x<|.inst 152 dx) H'->lY [] H H':=λk=>k0.fresh k λy m=>by rw[aH.mp m];exact dn
 refine Qt (Q:=λr H'=>r=.none/\Q (.ref x) H') (lT _ _ _) (by rw[lV ne];exact lT _ _ _) (k0 _ _ hl iN) hn hb ⟨λe H' c t k cn tn hd hc ht=>⟨rfl,h.1 e _ x xn (un k) λms hm=>?_⟩,λe H' k=>h.2 e _<|un k⟩;let out:∀{y:bp},H y=aI->y∉ms:=λe m=>hm _ m e;refine⟨dx,c,t,out xn,out dn,out<|k0.F6 cn,out<|k0.F6 tn,?_,hd,hc,ht,HF hn hb⟩;exact k _ _ (lT _ _ _) λm=>ne (aH.mp m).symm
theorem Qu(hl:H l=aq (NL lU))(hn:lU.length<=900)(hb:∀x∈lU,x<=15)(h:Sy ag af lU H Q E):mH 5 (.ref 152) [.ref l] H Q E:=
 CV hl hn hb h λq=>nS (n:=3) Dj sS (XI _) rfl q
theorem Qv(hl:H l=aq (NL lU))(hn:lU.length<=900)(hb:∀x∈lU,x<=15)(h:Sy dist af lU H Q E):mH 5 (.ref 152) [.ref l,.bool dist] H Q E:=
 CV hl hn hb h λq=>nS (n:=3) Dk sS (XJ _) rfl q
theorem VE(hl:H l=aq (NL lU))(hn:lU.length<=900)(hb:∀x∈lU,x<=15)(h:Sy dist qw lU H Q E):mH 5 (.ref 152) [.ref l,.bool dist,.bool qw] H Q E:=
 CV hl hn hb h λq=>nS (n:=3) Dl sS .nil rfl q
end
theorem EF:ur (nH J8) ag af=af/\ur (nH KY) af af=af/\J8.length=288/\KY.length=32/\(J8.all (·<=15))=af/\KY.all (·<=15)=af:=by decide+kernel
theorem CW(v:Nat):∀n,oy n [v]=iT n v
 |0=>rfl
 |n+1=>by rw[dO];refine CW v n▸?_;rfl
theorem sB(l:List Nat):(l.map λ(n:Nat)=>iR n).length=l.length:=cF _
section
variable{H:AH}{Q:V->AH->Prop}{E:AH->Prop}
theorem CX{K:V->AH->Prop}{z:Int}{n v:Nat}(hz:z=(n:Nat))(hn:n<=1000000)(h:∀b H',lY [] H H'->H b=aI->H' b=aq (NL<|iT n v)->K (.ref b) H'):mC H (.list [.int (v:Nat)]) λx H=>EP .Mult x K (.int z) H:=by
 subst hz;refine iP λa ha=>iL (lT _ _ _) (iM ⟨⟨("(ZvIuSc<&0zh4^wan$#"),("(s^%K7%x'f1H)&WkiSALR#^$#",hn)⟩,by simp only[jw];exact id<|j9 0x488a8a000000650404d000c177a12014400042 ("$") hn rfl⟩<|iP λb hb=>?_);let e:jr (qa ((n:Nat):Int).toNat [.int (v:Nat)])=NL (iT n v):=by rw[i9];exact congrArg jr<|(rP [v] n).trans (congrArg _<|CW v n)
 rw[e];let k:=(ly (ms:=[]) (H:=H)).new (o:=.list [.int (v:Nat)]) ha;exact h b _ (k.new hb) (k.F6 hb)<|lT _ _ _
theorem Ki{K:V->AH->Prop}{a b:bp}{l l':List Nat}(ha:H a=aq (NL l))(hb:H b=aq (NL l'))(hl:l.length+l'.length<=1000)(h:∀b,H b=aI->K (.ref b) (upd H b<|NL<|l++l')):EP .Add (.ref a) K (.ref b) H:=by
 refine iL ha<|iL hb<|iM ?_<|iP λc hc=>?_
 .rw[sB,sB];exact("D>0RSOlR'P,dX2,?_Z%#",hl)
 .rw[oZ];exact h c hc
inductive FW(ms:List bp)(H:AH)(t:bp)(a b:Bk):Prop
 |mk(x y:bp):t∉ms->H t=aq (.tup [.ref x,.ref y])->xI ms H x a->xI ms H y b->FW ms H t a b
abbrev Yk(ms:List bp)(H:AH)(t:bp):Prop:=FW ms H t (qF J8)<|qF KY
theorem VF{m:bp}{H7:AH}(k7:lY [] H H7)(h7:H7 m=aq (NL J8))(h:∀t H',H t=aI->lY [] H H'->(∀ms:List bp,(∀y∈ms,H y≠aI)->Yk ms H' t)->Q (.ref t) H'):(yk).ev [aq (.ref m),aI] H7 E (λ_ H=>Q .none H) (λ_ _=>False) Q:=by
 let c1:=EF.1;let c2:=EF.2.1;let l1:=EF.2.2.1;let l2:=EF.2.2.2.1;let b1:=EF.2.2.2.2.1;let b2:=EF.2.2.2.2.2;let b1:∀x∈J8,x<=15:=λx m=>pN<|bT.mp b1 x m;let b2:∀x∈KY,x<=15:=λx m=>pN<|bT.mp b2 x m;refine lw rfl ("") (Qu h7 ("d$xUT*Nr4kor$#",l1) b1 ⟨λ_ H8 x xn k8 cx=>?_,λe=>by let e:=c1▸e;exact Nu e⟩);refine iM (ak rfl)<|CX (n:=32) (v:=5) rfl ("") λb H9 k9 n9 h9=>?_;refine lw rfl ("") (Qv (lU:=KY) h9 ("*s~4KiIa%SLj$#",l2) b2 ⟨λ_ H10 y yn Sl cy=>?_,λe=>by let e:=c2▸e;exact Nu e⟩);refine iM (ak rfl)<|iP λt tn=>?_;have k79:=k8.trans k9;have Sz:=k79.trans Sl;let nn:∀{a o},H a=aq o->upd H10 t (.tup [.ref x,.ref y]) a≠aI:=λ{a o} e=>by refine bF (((k7.trans Sz).new tn) a o e iN)▸?_;exact λc=>by exact rQ c
 refine h t _ ((k7.trans Sz).F6 tn) ((k7.trans Sz).new tn) λms hm=>?_;let up:∀{H':AH},lY [] H H'->∀y∈ms,H' y≠aI:=λk y m e=>hm y m<|k.F6 e;refine⟨x,y,λm=>up (k7.trans Sz) t m tn,lT _ _ _,?_,?_⟩
 .exact((cx ms<|up k7).keep ((k9.trans Sl).more λ_ m=>(iN m).elim)).keep (lY.refl.new tn)
 .exact(cy ms<|up<|k7.trans k79).keep (lY.refl.new tn)
theorem Qw(h:∀t H',H t=aI->lY [] H H'->(∀ms:List bp,(∀y∈ms,H y≠aI)->Yk ms H' t)->Q (.ref t) H'):mH 6 (.ref 163) [] H Q E:=by refine nS (n:=5) Dv B2 .nil rfl ?_;refine iM (ak rfl)<|CX (n:=144) (v:=8) rfl ("") λm1 H1 k1 n1 h1=>?_;refine iM (ak rfl)<|CX (n:=112) (v:=9) rfl ("") λm2 H2 k2 n2 h2=>?_;refine Ki (k2 _ _ h1 iN) h2 ("") λm3 n3=>?_;refine iM (ak rfl)<|CX (n:=24) (v:=7) rfl ("") λm4 H4 k4 n4 h4=>?_;refine Ki (k4 _ _ (lT _ _ _) iN) h4 ("") λm5 n5=>?_;refine iM (ak rfl)<|CX (n:=8) (v:=8) rfl ("") λm6 H6 k6 n6 h6=>?_;refine Ki (k6 _ _ (lT _ _ _) iN) h6 ("") λm7 n7=>?_;let k7:=((((((k1.trans k2).new (o:=NL fxB) n3).trans k4).new (o:=NL fxC) n5).trans k6).new (o:=NL J8) n7);exact VF k7 (lT _ _ _) h
end
theorem oA.up{H:AH}{rd d a:bp}{pg:Pg}{p:Nat}{o:AO}(h:oA H rd d pg p)(h1:rd≠a)(h2:d≠a):oA (upd H a o) rd d pg p:=⟨by rw[lV h1];exact h.1,by rw[lV h2];exact h.2.1,h.2.2⟩
theorem oA.new{H:AH}{rd d a:bp}{pg:Pg}{p:Nat}{o:AO}(h:oA H rd d pg p)(n:H a=aI):oA (upd H a o) rd d pg p:=h.up (l9 h.1 n)<|l9 h.2.1 n
theorem TI(v n:Nat):qa n [iR (v:Nat)]=(oy n [v]).map λ(n:Nat)=>iR n:=rP [v] n
theorem EG(v n:Nat):(oy n [v]).length=n:=by rw[CW,jv]
section
variable{H h:AH}{Q:V->AH->Prop}{E:AH->Prop}{r c f:bp}{all:Int}{x4:Option V}{lU:List Nat}{v n:Nat}{N C:Loc->AH->Prop}
abbrev EH(r c:bp)(all:Int)(f:bp)(x4 x5 x6:Option V):Loc:=[aq (.ref r),aq<|.ref c,aq<|.int all,aq<|.ref f,x4,x5,x6,aI,aI,aI]
theorem tl4(hf:h f=aq (NL lU))(hl:lU.length<=400)(hn:n<=400){z:Int}(hz:z=(n:Nat))(hE:all<lU.length+n->E h)
  (hN:(lU.length+n:Nat)<=all->∀a b o o',h a=aI->(upd h a o) b=aI->N (EH r c all f x4 (aq<|.int (v:Nat))<|aq<|.int z) (upd (upd (upd h a o) b o') f<|NL<|lU++oy n [v])):(p5).ev (EH r c all f x4 (aq<|.int (v:Nat))<|aq<|.int z) h E N C Q:=by
 subst hz;refine iL hf<|iQ (λe=>?_) λe=>?_
 .let e:=pN e;rw[sB]at e;exact⟨rfl,zU.se,hE ("2[1:Jbgt=9AF%c%$",e)⟩
 .let e:=pZ e;rw[sB]at e;refine iL hf<|iM (ak rfl)<|iP λa ha=>?_;refine iL (lT _ _ _)<|iM ⟨⟨("(ZvIuSc<&0zh4^wan$#"),(":7kr>r_?Y`kP5{vypI3O.$#",hn)⟩,?_⟩<|iP λb hb=>?_
  .show 1*_<=_;exact id<|j9 0x911514000000ca0809a00182ec809400042 ("$") hn rfl
  let fa:=l9 hf ha;let fb:f≠b:=l9 (by rw[lV fa];exact hf) hb;refine iL (o:=NL lU) (by rw[lV fb,lV fa];exact hf)<|iL (lT _ _ _)<|iM ?_ ?_
  .rw[sB,i9];have:(qa n [iR (v:Nat)]).length=n:=by rw[TI,sB,EG]
   exact(")+fV^o4=ckK'78.qCFFRR{8&v&#",hl,hn,this)
  .let:=hN ("C4}Xc'Un:/igG/%$",e) a b (.list [.int (v:Nat)]) (.list (qa n [.int (v:Nat)])) ha hb;let e:NL (lU++oy n [v])=.list ((lU.map λ(n:Nat)=>iR n)++qa n [.int (v:Nat)]):=by rw[TI];exact(oZ _ _).symm
   rw[e]at this;exact this
theorem EI{pg:Pg}{lU l':List Nat}{sg p p':Nat}(e:nQ pg lU sg p=aq (l',p'))(hb:∀y∈lU,y<=15):∀y∈l',y<=15:=by
 let zs:∀y∈[0],y<=15:=λy m=>by rw[aH.mp m];decide
 have app:∀{a:List Nat}{n:Nat}{q:Option (Nat×Nat)}{f:Nat->Nat},(∀y∈a,y<=15)->(q.map λr=>(lU++oy (f r.1) a,r.2))=aq (l',p')->∀y∈l',y<=15:=λ{a n q f} ha e y m=>by obtain⟨r,_,e⟩:=ah.mp e;obtain⟨rfl,_⟩:=eL e;exact(aE.mp m).elim (hb y) λm=>ha y<|rD m
 unfold nQ at e;by_cases c:sg<16
 .rw[mZ c]at e;cases e;intro y m;exact(aE.mp m).elim (hb y) λm=>by rw[aH.mp m];exact("(J.V(N*Pr$#",c)
 rw[mT c]at e;by_cases c:sg=16
 .rw[mZ c]at e;by_cases c:lU=[]
  .rw[mZ c]at e;exact pB e
  .rw[mT c]at e;exact app (n:=0) (f:=(3+·)) (λy m=>hb y<|iX m) e
 rw[mT c]at e;by_cases c:sg=17
 .rw[mZ c]at e;exact app (n:=0) (f:=(3+·)) zs e
 .rw[mT c]at e;exact app (n:=0) (f:=(11+·)) zs e
end
section
variable{H h:AH}{Q:V->AH->Prop}{E:AH->Prop}{rd d c f:bp}{pg:Pg}{p all sg:Nat}{x5 x6:Option V}{lU:List Nat}{N C:Loc->AH->Prop}
inductive CdM(H:AH)(x:bp):Prop
 |mk(dx c t:bp):H x=aq (.inst 152 dx)->H dx=aq (.at [(76,.ref c),(70,.ref t)])->CdM H x
theorem xI.m{ms:List bp}{x:bp}{bk:Bk}(hx:xI ms H x bk):CdM H x:=by obtain⟨dx,c,t,_,_,_,_,h1,h2,_,_,_⟩:=hx;exact⟨dx,c,t,h1,h2⟩
theorem Qx(h:lU≠[]):qA (lU.map λ(n:Nat)=>iR n) (-1)=aq (.int (lU.getD (lU.length-1) 0:Nat)):=by let l:=jc.mpr h;unfold qA;rw[mT ("$23z&$w##"),sB,mZ ("{j>30[e+|M>$#",l),show(-1+(lU.length:Int)).toNat=lU.length-1 by exact("F,Nmiy8'QG7ms^GMFf.(rTL,B?3le*&#",rfl,rfl),cj,bU ("%NI`d#'5y)fQm6?%#",l,rfl),bq,bU ("%NI`d#'5y)fQm6?%#",l,rfl)];rfl
theorem Qy(h:lU≠[]):sK lU=[lU.getD (lU.length-1) 0]:=by let l:=jc.mpr h;unfold sK;rw[List.drop_eq_getElem_cons ("%NI`d#'5y)fQm6?%#",l,rfl),bq,bU ("%NI`d#'5y)fQm6?%#",l,rfl),io (">#g{`7D>[xTT1S'%#",rfl)];rfl
theorem aa6(hr:oA h rd d pg p)(hp:pg.length<=100000)(fd:f≠d)(hf:h f=aq (NL lU))(hl:lU.length<=400)(h16:16<=sg)
  (hE:(∀l' p',nQ pg lU sg p=aq (l',p')->all<l'.length)->∀h',lY [d] h h'->E h')
  (hN:∀l' p',nQ pg lU sg p=aq (l',p')->l'.length<=all->lU.length<l'.length->∀h' x5 x6,lY [d,f] h h'->oA h' rd d pg p'->h' f=aq (NL l')->N (EH rd c all f (aq<|.int (sg:Nat)) x5 x6) h'):
  (qV).ev (EH rd c all f (aq<|.int (sg:Nat)) x5 x6) h E N C Q:=by
 have fr:rd≠f:=λq=>by let hr:=q▸hr;let:=hr.1;have this:=hf▸this;cases this
 have go:∀(n v:Nat)(z:Int)(p':Nat)(h':AH),nQ pg lU sg p=aq (lU++oy n [v],p')->0<n->n<=400->lY [d] h h'->oA h' rd d pg p'->z=(n:Nat)->(p5).ev (EH rd c all f (aq<|.int (sg:Nat)) (aq<|.int (v:Nat))<|aq<|.int z) h' E N C Q:=λn v z p' h' e n0 n4 kp r' hz=>by
  let f':=kp _ _ hf λm=>fd<|aH.mp m;have ll:(lU++oy n [v]).length=lU.length+n:=by rw[cz,EG]
  refine tl4 f' hl n4 hz (λlt=>hE (λl' p'' e'=>?_) _ kp) λle a b o o' ha hb=>?_
  .have e':=e▸e';cases e';exact("+_q<9,:Vt%Zohx}M_q'#",ll,lt)
  .let kk:=((kp.new (o:=o) ha).new (o:=o') hb).more (ns:=[d,f]) λy m=>by rw[aH.mp m];exact .head _
   exact hN _ p' e ("$L/=U]VO_PQYG,I^1'#",ll,le) (")hbM:nMrxcUMKD2&#",n0,ll) _ _ _ (kk.upd<|.tail _ (.head _)) (((r'.new (o:=o) ha).new (o:=o') hb).up fr fd.symm)<|lT _ _ _
 refine iQ (λTJ=>?_) λTJ=>?_
 .have TJ:=pN TJ;have re:nQ pg lU sg p=if lU=[]then aI else(nU pg 2 p).map λr=>(lU++oy (3+r.1) (sK lU),r.2):=by unfold nQ;rw[mT (")Y|?:JTp$Sd$#",TJ),mZ ("$ye*Vr%id5>&$#",TJ)]
  refine iM (ak rfl)<|iP λz hz=>?_;have k1:lY [d] h (upd h z<|.list []):=lY.refl.new hz;have f1:=k1 _ _ hf λm=>fd<|aH.mp m;refine iL f1<|iL (lT _ _ _)<|iM (.inr rfl)<|iQ (λe=>?_) λe=>?_
  .have e:lU=[]:=by cases lU with
    |nil=>rfl
    |cons x l=>cases e
   refine⟨rfl,zU.se,hE (λl' p' q=>?_) _ k1⟩;let q:=re▸q;have q:=(mZ e)▸q;cases q
  .have e:lU≠[]:=λq=>by have e:=q▸e;cases e
   have re:=(mT e)▸re;have re:=(Qy e)▸re;let r1:=hr.new (o:=.list []) hz;refine iL f1 (iS (Qx e)<|iL r1.1<|iL r1.2.1<|lw rfl ("")<|qI (n:=2) r1 hp rfl ("") (λe=>by cases e) (λv p2 e2 H' k q=>?_) λe2 H' k=>?_)
   .have re:=e2▸re;let v4:=(qi e2).1;refine iM (ak rfl)<|iP λt ht=>iL (lT _ _ _) ?_;exact go (3+v) _ _ p2 _ re ("yoHRRBr$#") ("CKC}8H?)V,ZU$#",v4) ((k1.trans k).new ht) (q.new ht) ("'p74/kO]9oY$#")
   .let re:=e2▸re;exact hE (λl' p' q=>by rw[re]at q;cases q) _<|k1.trans k
 .let TJ:=pZ TJ;refine iQ (λSA=>?_) λSA=>?_
  .have SA:=pN SA;have re:nQ pg lU sg p=(nU pg 3 p).map λr=>(lU++oy (3+r.1) [0],r.2):=by unfold nQ;rw[mT (")Y|?:JVt.[l$#",SA),mT (")Y|?:V5;S^>$#",SA),mZ ("$ye*Ylqm=ujt$#",SA)]
   refine iL hr.1 (iL hr.2.1<|lw rfl ("")<|qI (n:=3) hr hp rfl ("") (λe=>by cases e) (λv p2 e2 H' k q=>?_) λe2 H' k=>hE (λl' p' q=>by let q:=re▸q;have q:=e2▸q;cases q) _ k);rw[e2]at re;have v4:=(qi e2).1;refine iM (ak rfl)<|iP λt ht=>iL (lT _ _ _) ?_;exact go (3+v) 0 _ p2 _ re ("yoHRRBr$#") ("CKC}8H?*X1_Y$#",v4) (k.new ht) (q.new ht) ("'p74/kO]9oY$#")
  .have SA:=pZ SA;have re:nQ pg lU sg p=(nU pg 7 p).map λr=>(lU++oy (11+r.1) [0],r.2):=by unfold nQ;rw[mT ("{pyV;_3_Q$#",h16),mT ("(R{<R`,`<.V>W$#",TJ),mT ("(R{<[%F5'uDZI$#",SA)]
   refine iL hr.1 (iL hr.2.1<|lw rfl ("")<|qI (n:=7) hr hp rfl ("") (λe=>by cases e) (λv p2 e2 H' k q=>?_) λe2 H' k=>hE (λl' p' q=>by let q:=re▸q;have q:=e2▸q;cases q) _ k);have re:=e2▸re;let v4:=(qi e2).1;refine iM (ak rfl)<|iP λt ht=>iL (lT _ _ _) ?_;exact go (11+v) 0 _ p2 _ re ("yoXtI(W$#") ("&|bjr{W?,f<J^K$#",v4) (k.new ht) (q.new ht) ("'p77*ZQ8Y%f$#")
end
section
variable{H:AH}{Q:V->AH->Prop}{E:AH->Prop}{rd d x:bp}{pg:Pg}{p all:Nat}{bk:Bk}
theorem Qz{ms:List bp}(hd:d∈ms)(hx:xI ms H x bk)(hr:oA H rd d pg p)(hl:pg.length<=100000){z:Int}(hz:z=(all:Nat))(ha:all<=316)
  (h1:∀lU p',pH pg bk all 317 p []=aq (lU,p')->lU.length=all->(∀y∈lU,y<=15)->∀r H',H r=aI->lY [d] H H'->oA H' rd d pg p'->H' r=aq (NL lU)->Q (.ref r) H')
  (h2:(∀lU p',pH pg bk all 317 p []=aq (lU,p')->all<lU.length)->∀H',lY [d] H H'->E H'):mH 5 (.ref 170) [.ref rd,.ref x,.int z] H Q E:=by
 subst hz;refine nS (n:=4) tX oJ .nil rfl ?_;refine iM (ak rfl)<|iP λf hf=>?_;have fd:=l9 hr.2.1 hf;let fr:=l9 hr.1 hf;refine F0.tl [Option V,Option V,Option V,List Nat,Nat] (λ_ x4 x5 x6 _ _=>EH rd x (all:Nat) f x4 x5 x6) (λk _ _ _ lU p' h=>A7 (oA h rd d pg p') (lY [d] H h) (h f=aq (NL lU)) (lU.length<=all) (pH pg bk all 317 p []=pH pg bk all k p' lU) (317<=k+lU.length) (∀y∈lU,y<=15))
  317 ⟨aI,aI,aI,[],p,⟨hr.new hf,lY.refl.new hf,lT _ _ _,aR _,rfl,dg _,λ_ m=>by cases m⟩,rfl⟩ ?_
 rintro k h K nx x4 x5 x6 lU p' ⟨q1,q2,q3,q4,q5,q6,q7⟩;refine iL q3 ⟨λc=>?_,λc=>?_⟩
 .have c:=pN c;rw[sB]at c;obtain⟨k,rfl⟩:∃k',k=k'+1:=⟨k-1,("<AQKci[}?k}I8K/Zeeh/[*rk4ZLuI<S6%'#",ha,q6,c,rfl)⟩;let st:pH pg bk all (k+1) p' lU=match pX pg bk lU p' with
   |none=>aI
   |some (lU,p)=>pH pg bk all k p lU:=mT ("b#TAa'l?2y%#",c)
  have q5:=st▸q5;clear st;obtain⟨dx,cc,t,m1,m2⟩:=(hx.keep (q2.more λy m=>by rw[aH.mp m];exact hd)).m;refine iL m1 (iL m2<|lw rfl ("")<|FM hd (hx.keep (q2.more λy m=>by rw[aH.mp m];exact hd)) q1 hl (λsg p1 e H' k' r'=>?_) λe H' k'=>h2 (λl' p2 e2=>?_) _<|q2.trans k')
  .have tn:pX pg bk lU p'=nQ pg lU sg p1:=by unfold pX;exact bF e▸rfl
   rw[tn]at q5;have f':=k' _ _ q3 λm=>fd (aH.mp m).symm;have kk:=q2.trans k';refine iQ (λc=>?_) λc=>?_
   .let c:=pN c;let re:nQ pg lU sg p1=aq (lU++[sg],p1):=by unfold nQ;rw[mZ ("OI|<5dktO$#",c)]
    rw[re]at q5;refine iL f' (iL f'<|iM (by rw[sB];exact(".fL:,e*<a/GXsT^e|M/%#",ha,(by assumption)))<|nx _ _ (dG k) _ _ _ (lU++[sg]) p1 ⟨r'.up fr fd,kk.oY hf,?_,?_,q5,?_,EI re q7⟩)
    .rw[lT];exact congrArg aq<|oZ lU [sg]
    .rw[cz];rw[jw];exact("{oe_`XL~j*u%#",(by assumption))
    .rw[cz];rw[jw];exact(".D*)MULbP=+p$P8saHo%#",q6)
   .have c:=pZ c;refine aa6 r' hl fd.symm f' ("$L`x5mdcy^,|uvU|#%#",ha,(by assumption)) ("*]CA(M`$Lj$#",c) (λov h' k''=>h2 (λl' p2 e2=>?_) _<|kk.trans k'') λl' p2 e2 l1 l2 h' y5 y6 k'' r'' f''=>nx _ _ (dG k) _ _ _ l' p2 ⟨r'',?_,f'',l1,?_,("%{2=wD`e2=:]Kge[c'Ns2&#",q6,l2),EI e2 q7⟩
    .cases e3:nQ pg lU sg p1 with
     |none=>let q5:=e3▸q5;have e2:=q5▸e2;cases e2
     |some r3=>
      obtain⟨l3,p3⟩:=r3;let lt:=ov l3 p3 e3;have q5:=e3▸q5;have e2:=q5▸e2;have:=(xE (p:=p3) (aP lt) k).symm.trans e2;cases this;exact lt
    .intro a o e m;exact k'' a o (kk a o e m) λm'=>by
      rcases aA.mp m' with m'|m'
      .exact m<|aH.mpr m'
      .let e:=(aH.mp m')▸e;have e:=hf▸e;cases e
    .rw[q5];exact bF e2▸rfl
  .have tn:pX pg bk lU p'=aI:=by unfold pX;exact bF e▸rfl
   rw[q5,tn]at e2;cases e2
 .have c:=pZ c;rw[sB]at c;exact h1 lU p' (by rw[q5,xE ("b#TA?.-t[T%#",c)]) ("979~tbJN%8=U+|H%#",q4,c) q7 f h hf q2 q1 q3
end
theorem Kj{cnt:List Nat}{f:Nat}:∀{s left:Nat},qY cnt f s 0=aq left->left=0:=by
 induction f with
 |zero=>intro s left e;exact(aB e).symm
 |succ f ih=>
  intro s left e;let e:(if 2*0<cnt.getD s 0 then aI else qY cnt f (s+1)<|2*0-cnt.getD s 0)=aq left:=e;by_cases c:2*0<cnt.getD s 0
  .have e:=(mZ c)▸e;exact pB e
  .rw[mT c,Nat.mul_zero,Nat.zero_sub]at e;exact ih e
theorem QA{cnt:List Nat}{left:Nat}(e:qY cnt 15 1 1=aq left)(n:left≠0):cnt.getD 1 0<=1:=by
 let u:qY cnt 15 1 1=if 2*1<cnt.getD 1 0 then aI else qY cnt 14 2 (2*1-cnt.getD 1 0):=rfl
 let e:=u▸e;by_cases c:2*1<cnt.getD 1 0
 .let e:=(mZ c)▸e;exact pB e
 .have e:=(mT c)▸e;by_cases c2:cnt.getD 1 0=2
  .let e:=c2▸e;exact absurd (Kj e) n
  .exact("dAPN0){3Q*y<M#Nj$#",c,c2)
theorem Ie{cnt:List Nat}(l:cnt.length=16):cnt.getD 1 0<=ou cnt 15:=by let a:ou cnt 1=ou cnt 0+cnt.getD 1 0:=qR ("$2X%+x.(K/..$#",l);let b:=tC cnt (i:=1) (j:=15) ("");exact("p<B]4~t7K_Iygv5'#",a,b)
theorem Kk{cnt sg:List Nat}{dist qw yt:Bool}(hs:sg.length=ou cnt 15)(l:cnt.length=16)(h:∀left,left≠0->cnt.getD 1 0<=1->((ou cnt 15==0&&dist)||(ou cnt 15==1&&cnt.getD 1 0==1&&qw))=(yt&&ou cnt 15==cnt.getD 1 0)):ur cnt dist qw=pV cnt sg yt:=by
 unfold ur pV;cases e:qY cnt 15 1 1 with
 |none=>rfl
 |some left=>
  rw[hs];by_cases z:left=0
  .subst z;rfl
  .let:=h left z (QA e z);dsimp only;rw[show(left==0)=ag from beq_eq_false_iff_ne.mpr z,jQ,jQ,this]
theorem QB{m c:Nat}(h:c<=m)(h1:c<=1):((m==0)||(m==1&&c==1))=(m==c):=by rw[dM];simp only[jV,cN,beq_iff_eq];exact⟨λg=>g.elim (λe=>fJ (e▸aR c) h) λe=>e.1.trans e.2.symm,λe=>(jH m).imp id λz=>⟨fJ (e▸h1) z,fJ h1<|e▸z⟩⟩
theorem QC{l:List Nat}:ur (nH l) ag ag=pV (nH l) (oO l) ag:=Kk (vT l) (by rw[rO,bO,cF,iU]) λ_ _ _=>by simp
theorem QD{l:List Nat}:ur (nH l) af af=pV (nH l) (oO l) af:=by
 have Yl:(nH l).length=16:=by rw[rO,bO,cF,iU]
 refine Kk (vT l) Yl λ_ _ h=>?_;rw[kG,kG,kb,QB (Ie Yl) h]
theorem QE{l:List Nat}(p:0<ou (nH l) 15):ur (nH l) ag af=pV (nH l) (oO l) af:=by
 have Yl:(nH l).length=16:=by rw[rO,bO,cF,iU]
 refine Kk (vT l) Yl λ_ _ h=>?_;let e:(ou (nH l) 15==0)=ag:=beq_eq_false_iff_ne.mpr ("zlk:2x=_r$#",p);let:=QB (Ie Yl) h;rw[e,jQ]at this;rw[Bool.and_false,jQ,kG,kb,this]
theorem QF{l:List Nat}{i:Nat}(hb:∀y∈l,y<=15)(hi:i<l.length)(h:l.getD i 0≠0):0<ou (nH l) 15:=by obtain⟨s,es⟩:∃s,l.getD i 0=s+1:=⟨l.getD i 0-1,("7L_.LfN=iKgQ|D3s|bDS'%#",h,rfl)⟩;let m:=getD_mem hi;let b:=hb _ m;rw[es]at m b;let a:=qR (cnt:=nH l) (i:=s) (by rw[rO,bO,cF,iU];exact("*m]Om4-{eig1tx$#",b));have c:=tC (nH l) (i:=s+1) (j:=15) ("C5M4J7*[_aq<$#",b);let d:=List.count_pos_iff.mpr m;rw[CH ("$EI]~1oQ{Vr$#",b)]at a;exact("'m*&VCv]DV}xz=+&Hw+'#",a,c,d)
theorem FW.keep{ms:List bp}{H H':AH}{t:bp}{a b:Bk}(k:lY ms H H')(h:FW ms H t a b):FW ms H' t a b:=by obtain⟨x,y,n,h1,h2,h3⟩:=h;exact⟨x,y,n,k _ _ h1 n,h2.keep k,h3.keep k⟩
def zG:AO:=.tup (vQ.map λ(n:Nat)=>iR n)
def SC(pg:Pg)(rd d:bp)(r:Tw)(H:AH)(Q:V->AH->Prop)(E:AH->Prop):Prop:=match r with
 |.bad=>∀H',lY [d] H H'->E H'
 |.pd=>True
 |.ok p a b=>∀t H',lY [d] H H'->oA H' rd d pg p->(∀ms:List bp,(∀y∈ms,H y≠aI)->d∈ms->FW ms H' t a b)->Q (.ref t) H'
section
variable{H h:AH}{Q:V->AH->Prop}{E:AH->Prop}{rd d f:bp}{pg:Pg}{p lit all:Nat}{x2 x3 x4 x5 x6:Option V}{lU:List Nat}
abbrev Ln(rd:bp)(lit:Int)(x2 x3 x4 x5 x6:Option V):Loc:=[aq (.ref rd),aq<|.int lit,x2,x3,x4,x5,x6,aI,aI,aI,aI,aI,aI,aI,aI,aI]
theorem oA.keep{H':AH}(h:oA H rd d pg p)(k:lY [] H H'):oA H' rd d pg p:=⟨k _ _ h.1 iN,k _ _ h.2.1 iN,h.2.2⟩
theorem rd3(hr:oA h rd d pg p)(k:lY [d] H h)(hf:h f=aq (NL lU))(hl:lU.length=all)(ha:all<=316)(Kl:257<=lit)(hla:lit<all)(hb:∀y∈lU,y<=15)(hq:SC pg rd d (rH lit all<|aq (lU,p)) H Q E){z:Int}(hz:z=(lit:Nat)):
  (wZ).ev (Ln rd z x2 x3 x4 x5<|aq<|.ref f) h E (λ_ H=>Q .none H) (λ_ _=>False) Q:=by
 subst hz;have aa7:256<lU.length:=("+Od<VchdO1C2t$0Wab0r&#",hl,Kl,hla);let bv:rH lit all (aq (lU,p))=if all<lU.length∨lU.getD 256 0=0 then .bad else
  if pV (nH<|lU.take lit) (oO<|lU.take lit) af&&pV (nH<|lU.drop lit) (oO<|lU.drop lit) af then .ok p (qF<|lU.take lit) (qF<|lU.drop lit)else .bad:=rfl
 rw[bv]at hq;refine iL hf<|iS (pE aa7)<|iQ (λc=>?_) λc=>?_
 .have c:((lU.getD 256 0:Nat):Int)=0:=pN c;rw[mZ (.inr ("$ye*&js.1+bS$#",c))]at hq;exact⟨rfl,zU.se,hq _ k⟩
 .have c:¬((lU.getD 256 0:Nat):Int)=0:=pZ c;rw[mT ("(gqDGmJSy5*/y_~I[UH:I&#",hl,c)]at hq;have b1:∀y∈lU.take lit,y<=15:=λy m=>hb y<|iZ m;let b2:∀y∈lU.drop lit,y<=15:=λy m=>hb y<|iX m;have t1:(lU.take lit).length=lit:=by rw[eW];exact("*(TWzAaWLJ|dgTFL*d6i3rF'#",hl,hla,rfl)
  let t2:(lU.drop lit).length=all-lit:=by rw[jd,hl]
  have pos:0<ou (nH<|lU.take lit) 15:=QF (i:=256) b1 ("$d_1b|||ye%7Vy]lP%#",Kl,t1) (by rw[bq,g9,mZ ("BqWZ#GAy$n2t$#",Kl),<-bq];exact("(R{;%gg}sudT($#",c))
  refine iL hf<|iP λm1 n1=>?_;rw[PH];refine lw rfl ("")<|Qu (lT _ _ _) (":X|J|ugD9Lt[(-^>hTt&#",ha,hla,t1) b1 ⟨λe1 H1 x xn k1 cx=>?_,λe H1 k1=>?_⟩
  .rw[QE pos]at e1;let km:=(ly (ms:=[])).new (o:=NL<|lU.take lit) n1;refine iL ((km.trans k1) _ _ hf iN)<|iP λm2 n2=>?_;rw[HQ];have k2:=(km.trans k1).new (o:=NL<|lU.drop lit) n2;refine lw rfl ("")<|Qv (lT _ _ _) ("%vU7&rOURUA;A2E])aCgYZX'#",ha,t2,rfl) b2 ⟨λe2 H2 y yn k3 cy=>?_,λe H2 k3=>?_⟩
   .rw[QD]at e2;rw[e1,e2,mZ (by rfl)]at hq;have k4:=k2.trans k3;refine iM (ak rfl)<|iP λt tn=>?_;let k5:=k4.new (o:=.tup [.ref x,.ref y]) tn;refine hq t _ (k.trans k5.any) (hr.keep k5) λms hm dm=>?_;let hm:∀y∈ms,h y≠aI:=λy my=>by
     by_cases q:y=d
     .rw[q,hr.2.1];exact λc=>by exact rQ c
     .obtain⟨o,ho⟩:=Option.ne_none_iff_exists'.mp (hm y my);rw[k _ _ ho λm=>q<|aH.mp m];exact λc=>by exact rQ c
    have up:∀{h1:AH},lY [] h h1->∀y∈ms,h1 y≠aI:=λkk y my e=>hm y my<|kk.F6 e;refine⟨x,y,λm=>up k4 t m tn,lT _ _ _,?_,?_⟩
    .exact((cx ms<|up km).keep (lY.new (lY.any<|(lY.refl.new n2).trans k3) tn))
    .exact(cy ms<|up k2).keep (lY.refl.new tn)
   .rw[QD]at e;rw[e1,e,kb,mT cA]at hq;exact hq _<|(k.trans k2.any).trans k3.any
  .rw[QE pos]at e;rw[e,kN,mT cA]at hq;exact hq _<|(k.trans<|lY.refl.new n1).trans k1.any
end
section
variable{H h:AH}{Q:V->AH->Prop}{E:AH->Prop}{rd d f:bp}{pg:Pg}{p lit dist some_:Nat}{x2 x3 x4 x5 x6:Option V}{lU:List Nat}
theorem rd4(hp:pg.length<=100000)(hr:oA h rd d pg p)(k:lY [d] H h)(hf:h f=aq (NL lU))(hl:lU.length<=900)(hb:∀y∈lU,y<=15)(Kl:257<=lit)(SG:lit<=286)(T0:1<=dist)(hd:dist<=30)
  (hq:SC pg rd d (vU pg lit (lit+dist) lU p) H Q E){z y:Int}(hz:z=(lit:Nat))(hy:y=(dist:Nat)):
  (w0).ev (Ln rd z (aq<|.int y) x3 (aq<|.ref f) x5 x6) h E (λ_ H=>Q .none H) (λ_ _=>False) Q:=by
 let un:vU pg lit (lit+dist) lU p=if pV (nH lU) (oO lU) ag then rH lit (lit+dist) (pH pg (qF lU) (lit+dist) 317 p [])else .bad:=rfl
 refine lw rfl ("")<|VE hf hl hb ⟨λe1 H1 x xn k1 cx=>?_,λe H1 k1=>?_⟩
 .rw[QC]at e1;rw[un,mZ e1]at hq;let r1:=hr.keep k1;let cd:=cx [d] λy m=>by rw[aH.mp m,hr.2.1];exact λc=>by exact rQ c
  refine lw rfl ("") (Qz (.head _) cd r1 hp (all:=lit+dist) (by rw[hz,hy];exact("qk-:yYB.aqF%#")) ("RI:yxYr_874`wpqr+%#",SG,hd) (λl' p' e ll XS m H2 mn k2 r2 hm=>?_) λov H2 k2=>?_)
  .rw[e]at hq;exact rd3 r2 ((k.trans k1.any).trans k2) hm ll ("RI:yxYr_874`wpqr+%#",SG,hd) Kl ("$D$)l+oiP.7%#",T0) XS hq hz
  .let:rH lit (lit+dist) (pH pg (qF lU) (lit+dist) 317 p [])=.bad:=by
    cases e:pH pg (qF lU) (lit+dist) 317 p []with
    |none=>rfl
    |some r=>exact mZ<|.inl (ov r.1 r.2 e)
   rw[this]at hq;exact hq _<|(k.trans k1.any).trans k2
 .rw[QC]at e;rw[un,e,mT cA]at hq;exact hq _<|k.trans k1.any
theorem FX(pg:Pg)(p:Nat):∀k,(HI pg p k).length=19
 |0=>rfl
 |k+1=>by show(List.set _ _ _).length=_;rw[jF,FX pg p k]
theorem TK(pg:Pg)(p:Nat):∀k,∀y∈HI pg p k,y<=15
 |0,y,m=>by rw[kf m];decide
 |k+1,y,m=>by
  rcases jo m with m|rfl
  .exact TK pg p k y m
  .have:=rC pg (p+3*k) 3;exact("(J.V&I|Hj$#",this)
theorem yD{n v p':Nat}(e:nU pg n p=aq (v,p')):v=mE pg p n/\p'=p+n:=⟨(oo e).1,(oo e).2.1⟩
theorem rd7(hp:pg.length<=100000)(hr:oA h rd d pg p)(k:lY [d] H h)(ho:h 48=aq zG)(Kl:257<=lit)(SG:lit<=286)(T0:1<=dist)(hd:dist<=30)(hs0:0<some_)(hs:some_<=19)
  (hq:SC pg rd d (vV pg lit (lit+dist) some_ p) H Q E){z y s:Int}(hz:z=(lit:Nat))(hy:y=(dist:Nat))(hse:s=(some_:Nat)):
  (w5).ev (Ln rd z (aq<|.int y) (aq<|.int s) x4 x5 x6) h E (λ_ H=>Q .none H) (λ_ _=>False) Q:=by
 subst hse;let un:vV pg lit (lit+dist) some_ p=if 8*pg.length<p+3*some_ then .bad else vU pg lit (lit+dist) (HI pg p some_) (p+3*some_):=rfl
 refine iM (ak rfl)<|iP λa ha=>?_;have k1:=lY.new (ms:=[]) (o:=.list [.int 0]) ly ha;refine iL (k1 _ _ ho iN) ?_;refine FS (n:=19) rfl ("") (lT _ _ _) λf hf=>?_;have nf:=k1.F6 hf;let k2:=k1.new (o:=NL<|iT 19 0) hf;have fd:=l9 hr.2.1 nf;let fr:=l9 hr.1 nf;let fo:=l9 ho nf;refine iM ("F#9?>_AB6/HF{q?G<Md17Eh#Sw|.$#",hs) (lq [Option V] (λ_ x5=>Ln rd z (aq<|.int y) (aq<|.int (some_:Nat)) (aq<|.ref f) x5 x6) (λi _ h'=>A4 (lY [d] h h') (oA h' rd d pg<|p+3*i) (h' f=aq (NL<|HI pg p i))<|i=0∨p+3*i<=8*pg.length)
  ⟨_,⟨k2.any,hr.keep k2,lT _ _ _,.inl rfl⟩,rfl⟩ ?_ ?_)
 .rintro i h' K hi nx y5 ⟨q1,q2,q3,q4⟩;have hi:i<some_:=("'U^(Jg~X{HYyfR3+W&#",hi,rfl);let h0:(0:Int)+i=(i:Nat):=("6.CQ#~w|>$#");rw[h0];have od:(48:bp)∉[d]:=λm=>by
   have e:=aH.mp m;have:=hr.2.1;rw[<-e,ho]at this;cases this
  refine iL q2.1 (iL q2.2.1<|lw rfl ("")<|qI (n:=3) q2 hp rfl ("") (λe=>by cases e) (λv p2 e2 H' k' q=>?_) λe2 H' k'=>?_)
  .obtain⟨rfl,rfl⟩:=yD e2;have le:=(qi e2).2;refine iL (k' _ _ (q1 _ _ ho od) od)<|iS (K9 ("Cv5kn8aZjs=c%#",hs,hi))<|iL (k' _ _ q3 λm=>fd (aH.mp m).symm)<|iM ⟨("Ao/DVr$#"),?_⟩<|nx _ _ ⟨(q1.trans k').oY nf,?_,?_,.inr ?_⟩
   .rw[sB,FX];let:=FG i;exact("&s3XZ1~.%~$#",this)
   .exact q.up fr fd
   .rw[lT];exact congrArg aq<|EE rfl rfl
   .exact("fFWreA-/cz~3hIf~g'Q?up&#",le)
  .let:=pY e2;rw[un,mZ ("=Qq%sx++:3]~f*~jFo%#h7ulc'#",hi,this)]at hq;exact hq _<|(k.trans q1).trans k'
 .intro h' y5 jj;let q1:=jj.1;let q2:=jj.2;let q3:=jj.3;let q4:=jj.4;have e:((some_:Int)-0).toNat=some_:=("6jDaobybc)q<,~P%#",rfl);rw[e]at q2 q3 q4;by_cases c:8*pg.length<p+3*some_
  .exact(kJ 0x248295000cd0862083444106800cd08600200500002263 ("$") hs0 q4 c).elim
  .rw[un,mT c]at hq;exact rd4 hp q2 (k.trans q1) q3 (by rw[FX];decide) (TK _ _ _) Kl SG T0 hd hq hz hy
theorem SH(hp:pg.length<=100000)(hr:oA H rd d pg p)(ho:H 48=aq zG)(nf:rI pg p≠.pd)(hq:SC pg rd d (rI pg p) H Q E):mH 6 (.ref 177) [.ref rd] H Q E:=by
 refine nS (n:=5) B5 uw .nil rfl ?_;let un:rI pg p=if 8*pg.length<p+14 then .bad else if 286<257+mE pg p 5∨30<1+mE pg (p+5) 5 then .pd else
  vV pg (257+mE pg p 5) (257+mE pg p 5+(1+mE pg (p+5) 5)) (4+mE pg (p+10) 4) (p+14):=rfl
 have bad:8*pg.length<p+14->∀H',lY [d] H H'->E H':=λc H' k=>by rw[un,mZ c]at hq;exact hq H' k
 refine iL hr.1 (iL hr.2.1<|lw rfl ("")<|qI (n:=5) hr hp rfl ("") (λe=>by cases e) (λv1 p1 e1 H1 k1 r1=>?_) λe H1 k1=>bad (by let:=pY e;exact("$~H=:f;{SJj{i<F-%#",this)) _ k1);obtain⟨rfl,rfl⟩:=yD e1;refine iL r1.1 (iL r1.2.1<|lw rfl ("")<|qI (n:=5) r1 hp rfl ("") (λe=>by cases e) (λv2 p2 e2 H2 k2 r2=>?_) λe H2 k2=>bad (by let:=pY e;exact("QDIp^tJ#|qLA55]1k%#",this)) _<|k1.trans k2);obtain⟨rfl,rfl⟩:=yD e2;refine iL r2.1 (iL r2.2.1<|lw rfl ("")<|qI (n:=4) r2 hp rfl ("") (λe=>by cases e) (λv3 p3 e3 H3 k3 r3=>?_) λe H3 k3=>bad (by let:=pY e;exact(".N4h*>0=rh<AyRrv`)%%#",this)) _<|(k1.trans k2).trans k3);obtain⟨rfl,rfl⟩:=yD e3;have le:=(qi e3).2;let l4:mE pg (p+10) 4<16:=rC pg (p+10) 4;rw[un,mT ("%&Q,ULI1-U=SP4{3[NoB%#",le)]at hq nf;by_cases c:286<257+mE pg p 5∨30<1+mE pg (p+5) 5
 .rw[mZ c]at nf;exact(nf rfl).elim
 rw[mT c]at hq;have k:=(k1.trans k2).trans k3;have od:(48:bp)∉[d]:=λm=>by have e:=aH.mp m;have:=hr.2.1;rw[<-e,ho]at this;cases this
 refine iM (ak rfl)<|iP λt tn=>iL (lT _ _ _) ?_;refine iQ (λc=>?_) λc=>iQ (λc=>?_) λc=>lD ?_
 .have:=pN c;exact(j9 0x93401a022538f09481012fc4402022538f09430c42 ("$") (by assumption) this).elim
 .let:=pN c;exact(j9 0x28d046097e281012fc4402022538f09430c42 ("$") (by assumption) this).elim
 .exact rd7 (some_:=4+mE pg (p+10) 4) hp (r3.new tn) (k.new tn) (by rw[lV (l9 (k _ _ ho od) tn)];exact k _ _ ho od) ("(J):yX5z$'0$#") ("8(=2vX)xpM;XMSV[8fD[.Q'$D%#",(by assumption)) ("yoDJF42$#") ("')z}s+|aZ4]&33)K`]:jST%#",(by assumption)) ("yoJV]Jz$#") ("$El-+Xc$3?$$#",l4) hq (">o).Sd_kW?GN+U$#") ("'p73HW}6wk($#") (by show(4:Int)+((mE pg (p+10) 4:Nat):Int)=_;exact("'p74QtgAIqr$#"))
end
section
variable{H:AH}{Q:V->AH->Prop}{E:AH->Prop}{rd d:bp}{pg:Pg}{p:Nat}
theorem QG(hr:oA H rd d pg p)(h:Q (.int (((p+7)/8:Nat))) H):Dh 109 68 rd H Q:=by exact Dh.intro zU.place<|Vb yd xy .nil rfl (iL hr.1<|iL hr.2.1 h)
theorem Nq{at_:Nat}{z:Int}(hz:z=(at_:Nat))(h:∀rd d H',H rd=aI->H d=aI->lY [] H H'->oA H' rd d pg (8*at_)->Q (.ref rd) H'):mH 3 (.ref 109) [.bytes pg,.int z] H Q E:=by
 subst hz;refine BA (C:=109) (fI:=77) (n:=2) (zU.Ω<|.head _) (Pl _) (zU.fn<|.tail _ (.head _)) λdx x dn xn ne=>?_;refine nS (n:=1) y4 yb .nil rfl ?_;let k0:=((ly (ms:=[]) (H:=H)).new (o:=.at []) dn).oY (o:=.inst 109 dx) xn;let hx:=lT (upd H dx<|.at []) x<|.inst 109 dx;let hd:upd (upd H dx<|.at []) x (.inst 109 dx) dx=aq (.at []):=by rw[lV ne];exact lT _ _ _
 revert k0 hx hd;generalize upd (upd H dx<|.at []) x (.inst 109 dx)=H1;intro k0 hx hd;let w:∀{h:AH}(o:AO),h x=aq (.inst 109 dx)->upd h dx o x=aq (.inst 109 dx):=λo e=>by rw[lV ne.symm];exact e
 refine iL hx<|iL hd<|iM (ak rfl) ?_;refine iL (w _ hx)<|iL (lT _ _ _)<|iM (ak rfl) ?_;refine iL (w _<|w _ hx)<|iL (lT _ _ _)<|iM (ak rfl) ?_;refine iL (w _<|w _<|w _ hx)<|iL (lT _ _ _)<|iM (ak rfl) ⟨rfl,?_⟩;refine h x dx _ xn dn ((((k0.oY dn).oY dn).oY dn).oY dn) ⟨w _<|w _<|w _<|w _ hx,?_,.inl ("'$hVWGnyWP;z6~8eOaB_?x&#",by exact jN rfl rfl rfl)⟩;rw[lT,show(8*at_+7)/8=at_ by exact("P,k;+*LNH5b5UJY;c%#",rfl),iB];rfl
end
structure Tl where
 T:bp
 dT:bp
 rd:bp
 d:bp
 ct:bp
 la:bp
 da:bp
abbrev Tl.ms(A:Tl):List bp:=[A.dT,A.d,A.ct]
def SI(A:Tl)(last done:Bool)(lit lI:V)(stored:Nat)(fx:V):AO:=.at [(81,.ref A.rd),(86,.int 32768),(89,.ref A.ct),(92,.bool last),(91,.bool done),(94,lit),(103,lI),(84,.int stored),(93,.ref A.la),(118,.ref A.da),(64,fx)]
structure Nr(A:Tl)(H:AH):Prop where
 hT:H A.T=aq (.inst 238 A.dT)
 nT:A.T∉A.ms
 nr:A.rd∉A.ms
 ho:H 48=aq zG
 no:48∉A.ms
 tl:TabAt A.ms H A.la nL 29
 td:TabAt A.ms H A.da pf 30
 n1:A.dT≠A.d
 n2:A.ct≠A.d
 n3:A.ct≠A.dT
inductive yE(A:Tl)(H:AH):V->V->Option (Bk×Bk)->Prop
 |no:yE A H .none .none aI
 |yes {x y a b}:xI A.ms H x a->xI A.ms H y b->yE A H (.ref x) (.ref y) (aq (a,b))
inductive FY(A:Tl)(H:AH):V->Prop
 |no:FY A H .none
 |yes {t}:FW A.ms H t (qF J8) (qF KY)->FY A H (.ref t)
inductive Ym(A:Tl)(H:AH)(s:MS):Prop
 |mk(lit lI fx:V):H A.dT=aq (SI A s.last s.done lit lI s.stored fx)->yE A H lit lI s.bks->FY A H fx->Ym A H s
structure nZ(A:Tl)(pg:Pg)(H:AH)(s:MS):Prop where
 st:Nr A H
 r:oA H A.rd A.d pg s.p
 c:H A.ct=aq (.ba s.out)
 o:Ym A H s
theorem Nr.keep{A:Tl}{H H':AH}(k:lY A.ms H H')(h:Nr A H):Nr A H':=⟨k _ _ h.hT h.nT,h.nT,h.nr,k _ _ h.ho h.no,h.no,h.tl.keep k,h.td.keep k,h.n1,h.n2,h.n3⟩
theorem yE.keep{A:Tl}{H H':AH}{lit lI:V}{b:Option (Bk×Bk)}(k:lY A.ms H H')(h:yE A H lit lI b):yE A H' lit lI b:=by
 induction h with
 |no=>exact .no
 |yes h1 h2=>exact .yes (h1.keep k) (h2.keep k)
theorem FY.keep{A:Tl}{H H':AH}{fx:V}(k:lY A.ms H H')(h:FY A H fx):FY A H' fx:=by
 induction h with
 |no=>exact .no
 |yes h=>exact .yes (h.keep k)
theorem Tl.md(A:Tl):A.d∈A.ms:=.tail _ (.head _)
theorem Tl.mt(A:Tl):A.dT∈A.ms:=.head _
theorem Tl.mc(A:Tl):A.ct∈A.ms:=.tail _ (.tail _ (.head _))
section
variable{A:Tl}{pg:Pg}{H H':AH}{s:MS}{p':Nat}{out':List UInt8}{a:bp}{o:AO}
theorem lY.dm(k:lY [A.d] H H'):lY A.ms H H':=k.more λx m=>by rw[aH.mp m];exact A.md
theorem nZ.rd(h:nZ A pg H s)(k:lY [A.d] H H')(r:oA H' A.rd A.d pg p'):nZ A pg H' ⟨p',s.out,s.last,s.done,s.bks,s.stored⟩:=by obtain⟨lit,lI,fx,e,l,f⟩:=h.o;exact⟨h.st.keep k.dm,r,k _ _ h.c λm=>h.st.n2<|aH.mp m,lit,lI,fx,k _ _ e λm=>h.st.n1<|aH.mp m,l.keep k.dm,f.keep k.dm⟩
theorem nZ.ct(h:nZ A pg H s):nZ A pg (upd H A.ct<|.ba out') ⟨s.p,out',s.last,s.done,s.bks,s.stored⟩:=by obtain⟨lit,lI,fx,e,l,f⟩:=h.o;let k:lY A.ms H (upd H A.ct<|.ba out'):=lY.refl.upd A.mc;exact⟨h.st.keep k,h.r.up (λq=>h.st.nr<|q▸A.mc) h.st.n2.symm,lT _ _ _,lit,lI,fx,by rw[lV h.st.n3.symm];exact e,l.keep k,f.keep k⟩
theorem nZ.keep(h:nZ A pg H s)(k:lY [] H H'):nZ A pg H' s:=by obtain⟨lit,lI,fx,e,l,f⟩:=h.o;let nm:∀{y:bp},y∉([]:List bp):=iN;exact⟨h.st.keep k.any,h.r.keep k,k _ _ h.c nm,lit,lI,fx,k _ _ e nm,l.keep k.any,f.keep k.any⟩
theorem nZ.set(h:nZ A pg H s){last done:Bool}{lit lI fx:V}{bks:Option (Bk×Bk)}{stored:Nat}(l:yE A H lit lI bks)(f:FY A H fx):nZ A pg (upd H A.dT<|SI A last done lit lI stored fx) ⟨s.p,s.out,last,done,bks,stored⟩:=by let k:lY A.ms H (upd H A.dT<|SI A last done lit lI stored fx):=lY.refl.upd A.mt;exact⟨h.st.keep k,h.r.up (λq=>h.st.nr<|q▸A.mt) h.st.n1.symm,by rw[lV h.st.n3];exact h.c,lit,lI,fx,lT _ _ _,l.keep k,f.keep k⟩
end
def qS(r:yx)(A:Tl)(pg:Pg)(H:AH)(Q:V->AH->Prop)(E:AH->Prop):Prop:=match r with
 |.bad=>∀H',lY A.ms H H'->E H'
 |.pd=>False
 |.go s=>∀H',lY A.ms H H'->nZ A pg H' s->Q .none H'
section
variable{A:Tl}{pg:Pg}{H h:AH}{s:MS}{Q:V->AH->Prop}{E:AH->Prop}{x1 x2 x3 x4 x5 x6 x7 x8:Option V}
theorem nZ.ct'{h':AH}{out':List UInt8}(i:nZ A pg h s)(k:lY [A.ct] h h')(c:h' A.ct=aq (.ba out')):nZ A pg h' ⟨s.p,out',s.last,s.done,s.bks,s.stored⟩:=by
 obtain⟨lit,lI,fx,e,l,f⟩:=i.o;have km:lY A.ms h h':=k.more λx m=>by rw[aH.mp m];exact A.mc
 let r1:A.rd∉[A.ct]:=λm=>i.st.nr (by rw[aH.mp m];exact A.mc);exact⟨i.st.keep km,⟨k _ _ i.r.1 r1,k _ _ i.r.2.1 λm=>i.st.n2 (aH.mp m).symm,i.r.2.2⟩,c,lit,lI,fx,k _ _ e λm=>i.st.n3 (aH.mp m).symm,l.keep km,f.keep km⟩
theorem tc3(i:nZ A pg h s){lQ n:Nat}(b1:1<=lQ)(b2:lQ<=s.out.length)(hl:s.out.length<=200000)(hn:n<=70000)
  (hq:∀h',lY [A.ct] h h'->nZ A pg h' ⟨s.p,qh lQ n s.out,s.last,s.done,s.bks,s.stored⟩->Q .none h'){z y:Int}(hz:z=(n:Nat))(hy:y=(lQ:Nat)):
  (rK).ev [aq (.ref A.T),x1,x2,x3,aq<|.int z,x5,aq<|.int y,x7,x8,aI,aI,aI] h E (λ_ H=>Q .none H) (λ_ _=>False) Q:=by
 subst hz hy;obtain⟨lit,lI,fx,e,l,f⟩:=i.o;let nT:A.T∉[A.ct]:=λm=>i.st.nT (by rw[aH.mp m];exact A.mc);have nd:A.dT∉[A.ct]:=λm=>i.st.n3 (aH.mp m).symm;refine iL i.st.hT<|iL e<|iL i.c ?_;refine iM ("&GR0vlR?Sr4l^Syb0[zavQQ3vLJw#|3RUX6ctIi>|:%iL1?D3+sq^jWnc|Oqk%$`_dVlnGD2mctrX50?l&#",b2,hl,hn) (lq [Option V] (λ_ x8=>[aq (.ref A.T),x1,x2,x3,aq<|.int (n:Nat),x5,aq<|.int (lQ:Nat),aq<|.int ((s.out.length:Int)-(lQ:Nat)),x8,aI,aI,aI]) (λk _ h'=>A3 (k<=n) (lY [A.ct] h h')<|h' A.ct=aq (.ba (qh lQ k s.out)))
  ⟨_,⟨aR _,.refl,i.c⟩,rfl⟩ ?_ ?_)
 .intro k h' K hk nx y8 jj;let q1:=jj.2;let q2:=jj.3;have hk:k<n:=("X&bdvgYh7`.1A5&Qm?-u22JY(#",hk,rfl);let t:=q1 _ _ i.st.hT nT;let d:=q1 _ _ e nd;let len:=we lQ k s.out;let cs:=xD lQ k s.out;have lt:(qh lQ k s.out).length-lQ<(qh lQ k s.out).length:=("xTrO[^#[|#)CYZwl_*Q:4RBf6(#",b1,b2,len,rfl);let ge:qA (qh lQ k s.out) ((s.out.length:Int)-(lQ:Nat)+k)=aq ((qh lQ k s.out).getD ((qh lQ k s.out).length-lQ) 0):=by
   unfold qA;rw[mZ ("+&as-8b$[Nm_z<&#",b2),show((s.out.length:Int)-(lQ:Nat)+k).toNat=(qh lQ k s.out).length-lQ by exact("&8|KX/+v<<q'e]8^;&q3&)ay-:%^s|J+'{yMMQ<Z;fq)#",len,rfl,rfl),bU lt,bq,bU lt];rfl
  refine iL t<|iL d<|iL q2<|iM (aQ _)<|iL t<|iL d<|iL q2<|iM ("+&as-8b$[Nm_z<&#",b2)<|iS ge<|iL q2<|iM ?_<|nx _ _ ⟨hk,q1.upd<|.head _,?_⟩
  .let:=jm ((qh lQ k s.out).getD ((qh lQ k s.out).length-lQ) 0);exact("&T,LDgM;L{noKGO;JKKm]To.li,#gcNU7pcyG#VFI`>0dE:l'}b(#",hl,hn,hk,len,this)
  .rw[lT,cs,i9];exact congrArg (λb=>aq<|AO.ba<|qh lQ k s.out++[b]) UInt8.ofNat_toNat
 .intro h' y8 jj;let q1:=jj.2;let q2:=jj.3;rw[show((s.out.length:Int)-(lQ:Nat)+(n:Nat)-((s.out.length:Int)-(lQ:Nat))).toNat=n by exact("%XSTI~iYApW2}J?p^$jZ~Ko'#",rfl)]at q2;exact hq h' q1<|i.ct' q1 q2
theorem qS.of{r:yx}{H':AH}(k:lY A.ms H H')(h:qS r A pg H Q E):qS r A pg H' Q E:=by
 cases r with
 |bad=>exact λH2 k2=>h H2 (k.trans k2)
 |pd=>exact h
 |go s=>exact λH2 k2=>h H2<|k.trans k2
theorem TabAt.get{ms:List bp}{a:bp}{f:Nat->Nat×Nat}{n:Nat}(t:TabAt ms H a f n):∃ts:List bp,H a=aq (.list (ts.map jX))/\ts.length=n/\∀k,k<n->∃t,qA (ts.map jX) (k:Int)=aq (.ref t)/\H t=aq (.tup [.int (f k).1,.int (f k).2]):=by obtain⟨ts,_,h1,h2,h3⟩:=t;refine⟨ts,h1,h2,λk hk=>?_⟩;let e:=bU (l:=ts) (i:=k) (":lXWQi|u?V3eW&#",h2,hk);exact⟨_,PJ rfl (by rw[cj,e];rfl),(h3 k _ e).2⟩
theorem Km:∀w,w<30->1<=(pf w).1/\(pf w).1+2^(pf w).2<=32769/\(pf w).2<=16:=by decide
theorem Ko{P:Prop}(p:P):aq 45=aq G.bad/\xT (cx mw 5)/\P:=⟨rfl,zU.se,p⟩
theorem tc7(hp:pg.length<=100000)(i:nZ A pg h s)(p8:s.p<=8*pg.length)(hl:s.out.length<=200000){n w:Nat}(VG:w<30)(hn:n<=70000)(hq:qS (xe pg n w s) A pg h Q E){z:Int}(hz:z=(n:Nat)):
  (rM).ev [aq (.ref A.T),x1,x2,x3,aq<|.int z,aq<|.int (w:Nat),x6,x7,x8,aI,aI,aI] h E (λ_ H=>Q .none H) (λ_ _=>False) Q:=by
 let b1:=(Km w VG).1;let b2:=(Km w VG).2.1;let b3:=(Km w VG).2.2;obtain⟨lit,lI,fx,e,l,f⟩:=i.o;refine gu λP9 mG=>?_;obtain⟨ts,t1,t2,t3⟩:=i.st.td.get;refine mG ?_;obtain⟨t,gt,ht⟩:=t3 w VG;refine iL i.st.hT<|iL e<|iL t1<|iS gt<|iL ht<|iL i.st.hT<|iL e<|iL i.r.1<|iL i.r.2.1<|lw rfl ("")<|qI i.r hp rfl b3 (λ_=>p8) (λe2 p4 eb H2 k2 r2=>?_) λeb H2 k2=>?_
 .have i2:=i.rd k2 r2;let lt:=(qi eb).1;obtain⟨VH,VI,fx2,To,l2,f2⟩:=i2.o;refine iL i2.st.hT<|iL To<|iL i2.c<|iQ (λc=>?_) λc1=>iL i2.st.hT<|iL To<|iQ (λc=>?_) λc=>lD ?_
  .have c:(s.out.length:Int)<((pf w).1:Nat)+(e2:Nat):=pN c;rw[Ew VG eb ("$zi~6d&}:~4*F>&#",c)]at hq;exact lC<|Ko<|hq _ k2.dm
  .let c:=pN c;exact(kJ 0x1534218033800020902040600048208006063 ("$") b2 lt c).elim
  .have c:¬(s.out.length:Int)<((pf w).1:Nat)+(e2:Nat):=pZ c1;rw[HO VG eb ("C4~Ba4o_XuqF/h&#",c)]at hq;exact tc3 i2 (lQ:=(pf w).1+e2) ("(Y$bs+$zlV_%#",b1) (by show _<=s.out.length;exact("C4~Ba4o_XuqF/h&#",c)) hl hn (λh' k3 i3=>hq h' (k2.dm.trans (k3.more λx m=>by rw[aH.mp m];exact A.mc)) i3) hz ("qk-:yYB.aqF%#")
 .rw[HN VG eb]at hq;exact hq _ k2.dm
theorem aa8(hp:pg.length<=100000){a b:Bk}(i:nZ A pg h s)(hb:s.bks=aq (a,b))(p8:s.p<=8*pg.length)(hl:s.out.length<=200000){n:Nat}(hn:n<=70000)
  (hq:qS (CJ pg b n s) A pg h Q E){z:Int}(hz:z=(n:Nat)):
  (rB).ev [aq (.ref A.T),x1,x2,x3,aq<|.int z,x5,x6,x7,x8,aI,aI,aI] h E (λ_ H=>Q .none H) (λ_ _=>False) Q:=by
 obtain⟨lit,lI,fx,e,l,f⟩:=i.o;rw[hb]at l;cases l with|@yes x y _ _ _ cy=>
 obtain⟨dy,cc,tt,m1,m2⟩:=cy.m;refine iL i.st.hT<|iL e<|iL m1<|iL m2<|iL i.st.hT<|iL e<|lw rfl ("")<|FM A.md cy i.r hp (λw p3 es H1 k1 r1=>?_) λes H1 k1=>?_
 .have i1:=i.rd k1 r1;rw[Eu es]at hq;obtain⟨Kp,Kq,Wb,e1,l1,f1⟩:=i1.o;refine gu λP9 mG=>?_;obtain⟨ts,t1,t2,t3⟩:=i1.st.td.get;refine mG ?_;let tl:(ts.map jX).length=30:=by rw[cF,t2]
  refine iL i1.st.hT<|iL e1<|iL t1<|iQ (λc=>?_) λc=>?_
  .have c:=pN c;rw[Ev ("3wvm5Umh6aA{;w%#",tl,c)]at hq;exact Ko<|hq _ k1.dm
  .have c:=pZ c;exact tc7 hp i1 (yv cy.ok.b es).2 hl ("'&e3yv&?s3&K#1%#",tl,c) hn (qS.of k1.dm hq) hz
 .rw[HM es]at hq;exact hq _ k1.dm
theorem size_le:∀k,k<29->(nL k).1+2^(nL k).2<=70000/\(nL k).2<=16:=by decide
theorem QH(hp:pg.length<=100000){a b:Bk}(i:nZ A pg H s)(hb:s.bks=aq (a,b))(p8:s.p<=8*pg.length)(hl:s.out.length<=200000){k:Nat}(hq:qS (tE pg b k s) A pg H Q E){z:Int}(hz:z=(k:Nat)):
  mH 5 (.ref 235) [.ref A.T,.int z] H Q E:=by
 subst hz;refine nS (n:=4) vN u8 .nil rfl ?_;obtain⟨lit,lI,fx,e,l,f⟩:=i.o;refine gu λP9 mG=>?_;obtain⟨ts,t1,t2,t3⟩:=i.st.tl.get;refine mG ?_;let tl:(ts.map jX).length=29:=by rw[cF,t2]
 refine iL i.st.hT<|iL e<|iL t1<|iQ (λc=>?_) λc=>?_
 .have c:=pN c;rw[Et ("3wvm)_OqD~levD%#",tl,c)]at hq;exact Ko<|hq _ .refl
 .have c:=pZ c;have Yn:k<29:=("'&_24tp`Thp-ZZ%#",tl,c);let b2:=(size_le k Yn).1;let b3:=(size_le k Yn).2;obtain⟨t,gt,ht⟩:=t3 k Yn;refine iL i.st.hT<|iL e<|iL t1<|iS gt<|iL ht<|iL i.st.hT<|iL e<|iL i.r.1<|iL i.r.2.1<|lw rfl ("")<|qI i.r hp rfl b3 (λ_=>p8) (λe1 p2 eb H1 k1 r1=>?_) λeb H1 k1=>?_
  .rw[zz Yn eb]at hq;let lt:=(qi eb).1;let p2:=(qi eb).2;exact aa8 (a:=a) (b:=b) (n:=(nL k).1+e1) hp (i.rd k1 r1) hb p2 hl ("$'v4cjFD40,tb2O/qZ#wah&#",b2,lt) (qS.of k1.dm hq) ("qk-:yYB.aqF%#")
  .rw[HL Yn eb]at hq;exact hq _ k1.dm
end
theorem sN(H:AH)(a:bp)(o o':AO):upd (upd H a o) a o'=upd H a o':=by
 funext b;unfold upd;by_cases e:b=a
 .rw[mZ e,mZ e]
 .rw[mT e,mT e,mT e]
theorem Nr.Tf{A:Tl}{H:AH}(h:Nr A H):A.T≠A.dT:=λq=>h.nT<|q▸A.mt
theorem qS.mono{r:yx}{A:Tl}{pg:Pg}{H:AH}{Q Q':V->AH->Prop}{E:AH->Prop}(h:qS r A pg H Q E)(k:∀H,Q .none H->Q' .none H):qS r A pg H Q' E:=by
 cases r with
 |bad=>exact h
 |pd=>exact h
 |go s=>exact λH2 k2 i=>k _<|h H2 k2 i
section
variable{A:Tl}{pg:Pg}{H h:AH}{s:MS}{Q:V->AH->Prop}{E:AH->Prop}
theorem QI(hp:pg.length<=100000){a b:Bk}(i:nZ A pg H s)(hb:s.bks=aq (a,b))(hl:s.out.length<=200000)(hq:qS (KZ pg a b s) A pg H Q E):mH 6 (.ref 228) [.ref A.T] H Q E:=by
 refine nS (n:=5) vH u7 .nil rfl ?_;obtain⟨lit,lI,fx,e,l,f⟩:=i.o;let l':=l;rw[hb]at l';cases l' with|@yes x y _ _ cx _=>
 obtain⟨dx,cc,tt,m1,m2⟩:=cx.m;unfold KZ at hq;refine iL i.st.hT<|iL e<|iL m1<|iL m2<|iL i.st.hT<|iL e<|lw rfl ("")<|FM A.md cx i.r hp (λsg p1 es H1 k1 r1=>?_) λes H1 k1=>?_
 .have i1:=i.rd k1 r1;rw[es]at hq;dsimp only at hq;obtain⟨Kp,Kq,Wb,e1,l1,f1⟩:=i1.o;refine iQ (λc=>?_) λc=>iQ (λc2=>?_) λc2=>?_
  .have c:=pN c;rw[mZ ("%jmNy#>d+h`Y>$#",c)]at hq;refine iL i1.st.hT<|iL e1<|iL i1.c<|iM (aQ _)<|iL i1.c<|iM ⟨⟨("Ao/DVr$#"),("95KnN5gG69rBf$#",c)⟩,?_⟩ ?_
   .show s.out.length<_;exact("2|9W4I+_OQT9T|h[$#",hl)
   .rw[i9];exact hq _ (k1.dm.upd A.mc) i1.ct
  .let c:=pZ c;let c2:=pN c2;rw[mT ("I|HNv8Nmy6ng^[$#",c2),mZ (".25WIKw?4H)k<cf$#",c2)]at hq;have w:∀o,upd H1 A.dT o A.T=aq (.inst 238 A.dT):=λo=>by rw[lV i.st.Tf];exact i1.st.hT
   refine iL i1.st.hT<|iL e1<|iM (ak rfl) ?_;refine iL (w _)<|iL (lT _ _ _)<|iM (ak rfl) ?_;refine hq _ ((k1.dm.upd A.mt).upd A.mt) ?_;rw[sN];exact i1.set (bks:=aI) .no f1
  .let c:=pZ c;let c2:=pZ c2;rw[mT ("*uV1-yoEbHRFm^$#",c),mT ("Cj9o9QT/0)nl|mKG$#",c2)]at hq;refine iL i1.st.hT<|iL e1<|lw rfl ("")<|QH (k:=sg-257) hp i1 hb ?_ hl ?_ ?_
   .exact(yv cx.ok.b es).2
   .exact(hq.of k1.dm).mono λ_ q=>q
   .exact("${}yn?sja<A[$F`=Om]uPfS-u5CaENzt,b{=%#",c,c2,rfl)
 .rw[es]at hq;exact hq _ k1.dm
end
section
variable{A:Tl}{pg:Pg}{H h:AH}{s:MS}{Q:V->AH->Prop}{E:AH->Prop}
theorem nZ.zZ(h:nZ A pg H s){last done:Bool}{lit lI fx:V}{bks:Option (Bk×Bk)}{stored:Nat}{z:Int}(hz:z=(stored:Nat))(l:yE A H lit lI bks)(f:FY A H fx):
  nZ A pg (upd H A.dT<|.at [(81,.ref A.rd),(86,.int 32768),(89,.ref A.ct),(92,.bool last),(91,.bool done),(94,lit),(103,lI),(84,.int z),(93,.ref A.la),(118,.ref A.da),(64,fx)]) ⟨s.p,s.out,last,done,bks,stored⟩:=by subst hz;exact h.set l f
theorem SJ{a k:Nat}(h:a+4<=pg.length)(k4:k<4):qA ((pg.drop a).take 4) (k:Int)=aq (pg.getD (a+k) 0):=by unfold qA;rw[mZ ("Ao/DVr$#"),i9,g9,mZ k4,gS,bU ("%%yCX3Uzii%F}Kfr&#",h,k4),bq,bU ("%%yCX3Uzii%F}Kfr&#",h,k4)];rfl
theorem EJ(pg:Pg)(a:Nat):mE pg (8*a) 16=(pg.getD a 0).toNat+(pg.getD (a+1) 0).toNat*256:=by rw[show 16=8+8 from rfl,tG,zD,show 8*a+8=8*(a+1) by exact("K.L,}Sn)J/9?v$#"),zD]
theorem Kr(hp:pg.length<=100000)(i:nZ A pg H s)(hq:qS (J9 pg s) A pg H Q E):mH 4 (.ref 214) [.ref A.T] H Q E:=by
 refine nS (n:=3) tz qE .nil rfl ?_;obtain⟨lit,lI,fx,e,l,f⟩:=i.o;unfold J9 at hq;refine iL i.st.hT<|iL e<|iL i.r.1<|iL i.r.2.1<|lw rfl ("")<|Qf i.r hp (n:=4) rfl ("") (λle H1 k1 r1=>?_) λlt H1 k1=>?_
 .let i1:=i.rd k1 r1;rw[mT ("(Q/fnvyD~<.h3%#",le)]at hq;let tl:((pg.drop<|(s.p+7)/8).take 4).length<=16777216:=by rw[eW];exact("+.{'9}'S1Lz25&O]%#",rfl)
  let b0:=jm<|pg.getD ((s.p+7)/8) 0;let b1:=jm<|pg.getD ((s.p+7)/8+1) 0;let b2:=jm<|pg.getD ((s.p+7)/8+2) 0;let b3:=jm<|pg.getD ((s.p+7)/8+3) 0;let t1:=EJ pg<|(s.p+7)/8;let t2:=EJ pg<|(s.p+7)/8+2;rw[show 8*((s.p+7)/8+2)=8*((s.p+7)/8)+16 by exact("K/r*Cgc%5Rl=v$#"),show(s.p+7)/8+2+1=(s.p+7)/8+3 from rfl]at t2;refine iM ⟨by decide,tl⟩ (iS (SJ (k:=0) le (""))<|iM ⟨by decide,tl⟩<|iS (SJ (k:=1) le (""))<|iM (uj ("") ("")) ?_);refine iM ⟨by decide,tl⟩ (iS (SJ (k:=2) le (""))<|iM ⟨by decide,tl⟩<|iS (SJ (k:=3) le (""))<|iM (uj ("") ("")) ?_);refine iM (ak rfl)<|iP λt tn=>iL (lT _ _ _) ?_;let i2:=i1.keep<|lY.refl.new (o:=.tup [.int ((pg.getD ((s.p+7)/8) 0).toNat+(pg.getD ((s.p+7)/8+1) 0).toNat*256),.int ((pg.getD ((s.p+7)/8+2) 0).toNat+(pg.getD ((s.p+7)/8+3) 0).toNat*256)]) tn;obtain⟨VH,VI,fx2,e2,l2,f2⟩:=i2.o;refine iQ (λc=>?_) λc=>?_
  .have c:¬(((pg.getD ((s.p+7)/8) 0).toNat:Int)+(pg.getD ((s.p+7)/8+1) 0).toNat*256+((pg.getD ((s.p+7)/8+2) 0).toNat+(pg.getD ((s.p+7)/8+3) 0).toNat*256)=65535):=pZ (by simpa using c);rw[mT ("$O}NDk:0~rZZjA?cl$3I8{'gc`#CKHjbmQ&;L-WsO,?EN&bT(%HI{9)#",t1,t2,c)]at hq;exact⟨rfl,zU.se,hq _<|k1.dm.new tn⟩
  .have c:((pg.getD ((s.p+7)/8) 0).toNat:Int)+(pg.getD ((s.p+7)/8+1) 0).toNat*256+((pg.getD ((s.p+7)/8+2) 0).toNat+(pg.getD ((s.p+7)/8+3) 0).toNat*256)=65535:=pN (by simpa using c);rw[mZ ("L/fxRd[ETXR<>T~+)7OToHRLP8H^5u$jp=1;=]:A,2c,)[-&m7IH)#",t1,t2,c)]at hq;refine iL i2.st.hT<|iL e2<|iM (ak rfl) ?_;exact hq _ ((k1.dm.new tn).upd A.mt) (i2.zZ (show((pg.getD ((s.p+7)/8) 0).toNat:Int)+(pg.getD ((s.p+7)/8+1) 0).toNat*256=_ by exact("7<0}kq-y^<j70~uw}8OrG^z&#",t1)) l2 f2)
 .rw[mZ ("Bz3,a7[IW14+%#",lt)]at hq;exact hq _ k1.dm
theorem Ks(hp:pg.length<=100000)(i:nZ A pg H s)(hl:s.out.length<=200000)(hs:s.stored<=100000)(hq:qS (Bb pg s) A pg H Q E):mH 4 (.ref 221) [.ref A.T,.none] H Q E:=by
 refine nS (n:=3) ug tA .nil rfl ?_;obtain⟨lit,lI,fx,e,l,f⟩:=i.o;unfold Bb at hq;refine iL i.st.hT<|iL e<|lD ?_;refine iL i.st.hT<|iL e<|iL i.c<|iM (aQ _)<|iL i.st.hT<|iL e<|iL i.r.1<|iL i.r.2.1<|lw rfl ("")<|Qf i.r hp rfl hs (λle H1 k1 r1=>?_) λlt H1 k1=>?_
 .let i1:=i.rd k1 r1;rw[mZ le]at hq;refine iL i1.c<|iM ?_ ?_
  .show s.out.length+_<=_;rw[eW];exact("VR0$OPo{FIQ*9QGAcc3O.r3|oXS5y:c'#",hl,hs,rfl)
  let i2:=i1.ct (out':=s.out++(pg.drop<|(s.p+7)/8).take s.stored);obtain⟨VH,VI,fx2,e2,l2,f2⟩:=i2.o;refine iL i2.st.hT<|iL e2<|iL i2.st.hT<|iL e2<|iM (ak rfl) ?_;refine hq _ ((k1.dm.upd A.mc).upd A.mt) ?_;exact i2.zZ (stored:=0) (show(s.stored:Int)-(s.stored:Nat)=(0:Nat) by exact("$d#q/PWhaj$#")) l2 f2
 .rw[mT ("(OY?z-<:,GfLl&#",lt)]at hq;exact hq _ k1.dm
end
section
variable{A:Tl}{pg:Pg}{H h:AH}{s:MS}{Q:V->AH->Prop}{E:AH->Prop}
theorem nZ.there(i:nZ A pg h s):∀y∈A.ms,h y≠aI:=by
 obtain⟨_,_,_,e,_,_⟩:=i.o;intro y m;rcases aA.mp m with rfl|m
 .rw[e];exact λc=>by exact rQ c
 rcases aA.mp m with rfl|m
 .rw[i.r.2.1];exact λc=>by exact rQ c
 .rw[aH.mp m];rw[i.c];exact λc=>by exact rQ c
theorem bb9(hp:pg.length<=100000)(i:nZ A pg h s){kind:Nat}(hq:qS (xF pg kind s) A pg h Q E):
  (q0).ev [aq (.ref A.T),aq<|.int kind,aI,aI,aI] h E (λ_ H=>Q .none H) (λ_ _=>False) Q:=by
 obtain⟨lit,lI,fx,e,l,f⟩:=i.o;have w:∀{h:AH}(o:AO),h A.T=aq (.inst 238 A.dT)->upd h A.dT o A.T=aq (.inst 238 A.dT):=λo e=>by rw[lV i.st.Tf];exact e
 have two:∀(h':AH)(p:Nat)(t:bp)(a b:Bk),lY A.ms h h'->nZ A pg h' ⟨p,s.out,s.last,s.done,s.bks,s.stored⟩->FW A.ms h' t a b->(∀h2,lY A.ms h h2->nZ A pg h2 ⟨p,s.out,s.last,s.done,aq (a,b),s.stored⟩->Q .none h2)->
   ∃x y l d fx,h' t=aq (.tup [.ref x,.ref y])/\h' A.T=aq (.inst 238 A.dT)/\h' A.dT=aq (SI A s.last s.done l d s.stored fx)/\∀o,Q .none (upd (upd h' A.dT o) A.dT<|SI A s.last s.done (.ref x) (.ref y) s.stored fx):=λh' p t a b k i' q hq=>by
  obtain⟨x,y,_,ht,l1,l2⟩:=q;obtain⟨aa9,ab0,Y1,e',_,f'⟩:=i'.o;refine⟨x,y,aa9,ab0,Y1,ht,i'.st.hT,e',λo=>?_⟩;rw[sN];exact hq _ (k.upd A.mt)<|i'.set (.yes l1 l2) f'
 unfold xF at hq;refine iQ (λc=>?_) λc=>iQ (λc2=>?_) λc2=>iQ (λc3=>?_) λc3=>?_
 .let c:=pN c;rw[mZ ("$ye*&js.1+bS$#",c)]at hq;exact iL i.st.hT<|iL e<|lw rfl ("")<|Kr hp i<|hq.mono λ_ q=>q
 .let c:=pZ c;have c2:=pN c2;rw[mT (")Ysy~$JQfBM$#",c2),mZ ("$ye*)ec1hl1E$#",c2)]at hq;rcases f with _|pr
  .refine iL i.st.hT (iL e<|lC<|lw rfl ("")<|Qw λt H1 tn k1 fx=>?_);have i1:=i.keep k1;let pr:=fx A.ms i.there;obtain⟨Kp,Kq,Wb,e1,l1,_⟩:=i1.o;refine iL i1.st.hT<|iL e1<|iM (ak rfl) ?_;let i2:=i1.set (last:=s.last) (done:=s.done) (stored:=s.stored) (fx:=.ref t) l1<|.yes pr;let k2:=(k1.any (ms:=A.ms)).upd (o:=SI A s.last s.done Kp Kq s.stored<|.ref t) A.mt;refine gu λP9 mG=>?_;obtain⟨x,y,l',d',Y1,ht,hT,hd,q⟩:=two _ s.p t _ _ k2 i2 (FW.keep (lY.refl.upd A.mt) pr) hq;refine mG ?_;exact iL hT<|iL (lT _ _ _)<|iL ht<|iL hT<|iL hd<|iM (ak rfl)<|iL (w _ hT)<|iL (lT _ _ _)<|iM (ak rfl)<|q _
  .refine gu λP9 mG=>?_;obtain⟨x,y,l',d',Y1,ht,hT,hd,q⟩:=two h s.p _ _ _ .refl i pr hq;refine mG ?_;exact iL i.st.hT<|iL e<|lD<|iL i.st.hT<|iL e<|iL ht<|iL hT<|iL hd<|iM (ak rfl)<|iL (w _ hT)<|iL (lT _ _ _)<|iM (ak rfl)<|q _
 .have c:=pZ c;have c2:=pZ c2;let c3:=pN c3;rw[mT (")Ysy~$LUpJU$#",c3),mT (")YtN)2fE0Z^$#",c3),mZ ("$ye*,`R5CO^6$#",c3)]at hq;refine iL i.st.hT (iL e<|lw rfl ("")<|SH hp i.r i.st.ho (λe=>by let hq:=e▸hq;exact hq) ?_);cases eb:rI pg s.p with
  |bad=>let hq:=eb▸hq;exact λH' k=>hq _ k.dm
  |pd=>trivial
  |ok p a b=>
   have hq:=eb▸hq;dsimp only at hq;intro t H' k r pr;have pr:=pr A.ms (λy m=>?_) A.md
   .refine gu λP9 mG=>?_;obtain⟨x,y,l',d',Y1,ht,hT,hd,q⟩:=two H' p t a b k.dm (i.rd k r) pr hq;refine mG ?_;exact iL ht<|iL hT<|iL hd<|iM (ak rfl)<|iL (w _ hT)<|iL (lT _ _ _)<|iM (ak rfl)<|q _
   .exact i.there y m
 .have c:=pZ c;have c2:=pZ c2;have c3:=pZ c3;rw[mT ("(R{;%gg}sudT($#",c),mT ("(R{;.-$S_`Qov$#",c2),mT ("(R{;6O=)JJ?.h$#",c3)]at hq;exact⟨rfl,zU.se,hq _ .refl⟩
theorem Nt(hp:pg.length<=100000)(i:nZ A pg H s)(hb:s.bks=aI)(hq:qS (FD pg s) A pg H Q E):mH 7 (.ref 207) [.ref A.T] H Q E:=by
 refine nS (n:=6) t5 tj .nil rfl ?_;obtain⟨lit,lI,fx,e,l,f⟩:=i.o;unfold FD at hq;refine iL i.st.hT (iL e<|iL i.r.1<|iL i.r.2.1<|lw rfl ("")<|qI i.r hp (n:=1) rfl ("") (λe=>by cases e) (λv p1 e1 H1 k1 r1=>?_) λe1 H1 k1=>?_)
 .have hq:=e1▸hq;dsimp only at hq;let i1:=i.rd k1 r1;obtain⟨Kp,Kq,Wb,o1,l1,f1⟩:=i1.o;refine iL i1.st.hT<|iL o1<|iM (ak rfl) ?_;let i2:=i1.set (last:=decide<|(v:Int)=1) (done:=s.done) (stored:=s.stored) l1 f1;let k2:=k1.dm.upd (o:=SI A (decide<|(v:Int)=1) s.done Kp Kq s.stored Wb) A.mt;revert i2 k2;show _->_->(qW).ev [aq (.ref A.T),aI,aI,aI,aI] (upd H1 A.dT<|SI A (decide<|(v:Int)=1) s.done Kp Kq s.stored Wb) E (λ_ H=>Q .none H) (λ_ _=>False) Q;generalize upd H1 A.dT (SI A (decide<|(v:Int)=1) s.done Kp Kq s.stored Wb)=H2;intro i2 k2;obtain⟨VH,VI,fx2,o2,l2,f2⟩:=i2.o;refine iL i2.st.hT (iL o2<|iL i2.r.1<|iL i2.r.2.1<|lw rfl ("")<|qI i2.r hp (n:=2) rfl ("") (λe=>by cases e) (λkind p2 e2 H3 k3 r3=>?_) λe2 H3 k3=>?_)
  .let i3:=i2.rd k3 r3;rw[e2]at hq;dsimp only at hq;let hq:=hq.of<|k2.trans k3.dm;let el:(v==1)=decide ((v:Int)=1):=by
    rw[dM,beq_iff_eq,decide_eq_true_iff];exact(Int.ofNat_inj (n:=1)).symm
   let hq:=el▸hq;exact bb9 hp i3 hq
  .let hq:=e2▸hq;exact hq _<|k2.trans k3.dm
 .let hq:=e1▸hq;exact hq _ k1.dm
end
def QJ(r:M7)(A:Tl)(pg:Pg)(H:AH)(Q:V->AH->Prop)(E:AH->Prop):Prop:=match r with
 |.bad=>∀H',lY A.ms H H'->E H'
 |.pd=>False
 |.told out pl=>∀H' s,lY A.ms H H'->nZ A pg H' s->s.out=out->(s.p+7)/8=pl->Q .none H'
section
variable{A:Tl}{pg:Pg}{H h:AH}{s:MS}{Q Q':V->AH->Prop}{E:AH->Prop}
theorem qS.run{r:yx}{k:Nat}(hq:QJ (match r with
   |.bad=>.bad
   |.pd=>.pd
   |.go s=>runM pg k s) A pg H Q E)(kp:lY A.ms H h)(hn:∀s' h',lY A.ms H h'->nZ A pg h' s'->QJ (runM pg k s') A pg H Q E->Q' .none h'):qS r A pg h Q' E:=by
 cases r with
 |bad=>exact λh' k'=>hq h' (kp.trans k')
 |pd=>exact hq
 |go s=>exact λh' k' i=>hn s h' (kp.trans k') i hq
theorem SK(hp:pg.length<=100000)(i:nZ A pg H s){k:Nat}(hq:QJ (runM pg k s) A pg H Q E):mH 8 (.ref 200) [.ref A.T] H Q E:=by
 refine nS (n:=7) Ay zw (XM _) rfl ?_;refine F0.tl [MS] (λ_ _=>[aq (.ref A.T),aq .none,aI]) (λk s h=>A3 (nZ A pg h s) (lY A.ms H h)<|QJ (runM pg k s) A pg H Q E) k ⟨s,⟨i,.refl,hq⟩,rfl⟩ ?_;clear hq i;rintro k h K nx s ⟨i,kp,hq⟩;cases k with
 |zero=>exact hq.elim
 |succ k=>
  let hq:QJ (if 100000<s.out.length+s.stored then .pd else if s.done then .told s.out ((s.p+7)/8)else match vW pg s with
   |.bad=>.bad
   |.pd=>.pd
   |.go s=>runM pg k s) A pg H Q E:=hq
  by_cases lt:100000<s.out.length+s.stored
  .rw[mZ lt]at hq;exact hq.elim
  rw[mT lt]at hq;obtain⟨p,out,last,done,bks,stored⟩:=s;let lt:¬100000<out.length+stored:=lt;obtain⟨lit,lI,fx,e,l,f⟩:=i.o;let st:∀{r:yx},vW pg ⟨p,out,last,done,bks,stored⟩=r->done=ag->qS r A pg h (λ_ h'=>K [aq (jX A.T),aq V.none,aI] h') E:=λer ed=>by subst ed;rw[mT cA,er]at hq;exact qS.run (k:=k) hq kp λs' h' k' i' q'=>nx k h' (dG k) s' ⟨i',k',q'⟩
  cases done with
  |true=>
   rw[mZ rfl]at hq;exact iL i.st.hT (iL e<|lD ⟨λc=>(by cases c),λ_=>hq h _ kp i rfl rfl⟩)
  |false=>
   clear hq;refine iL i.st.hT (iL e<|lC<|lC<|lC ⟨λ_=>?_,λc=>by cases c⟩);cases bks with
   |some ab=>
    obtain⟨a,b⟩:=ab;cases l with|@yes x y _ _ _ _=>
    refine iL i.st.hT<|iL e<|lC<|iL i.st.hT<|iL e<|lw rfl ("")<|QI (a:=a) (b:=b) hp i rfl ?_ ?_
    .exact("$%vdEzhO?xjq:DP1$3%#",lt)
    .exact st rfl rfl
   |none=>
    cases l;refine iL i.st.hT<|iL e<|lD<|iL i.st.hT<|iL e<|iQ (λc=>?_) λc=>?_
    .have c:0<(stored:Int):=pN c;refine iL i.st.hT<|iL e<|lw rfl ("")<|Ks hp i ?_ ?_ ?_
     .exact("$%vdEzhO?xjq:DP1$3%#",lt)
     .exact("vO3SMNe1+r5j3`G%N%#",lt)
     .exact st (mZ (show 0<stored by exact("NuS/|py:x$#",c))) rfl
    .have c:¬0<(stored:Int):=pZ c;have s0:vW pg ⟨p,out,last,ag,aI,stored⟩=if last then .go ⟨p,out,last,af,aI,stored⟩else FD pg ⟨p,out,last,ag,aI,stored⟩:=mT (show¬0<stored by exact("$D$',b3=4(.$#",c))
     cases last with
     |true=>
      refine iL i.st.hT<|iL e<|lC<|iL i.st.hT<|iL e<|iM (ak rfl) ?_;exact st s0 rfl _ (lY.refl.upd A.mt) (i.set (bks:=aI) .no f)
     |false=>
      refine iL i.st.hT<|iL e<|lD<|iL i.st.hT<|iL e<|lw rfl ("")<|Nt hp i rfl ?_;exact st s0 rfl
end
section
variable{pg:Pg}{H:AH}{Q:V->AH->Prop}{E:AH->Prop}{T dT:bp}
theorem VJ{at_:Nat}{z:Int}{rd d ct:bp}{H0:AH}(k0:lY [] H0 H)(hT:H T=aq (.inst 238 dT))(hd:H dT=aq (.at [(81,.ref rd),(86,.int 32768),(89,.ref ct),(92,.bool ag),(91,.bool ag),(94,.none),(103,.none),(84,.int 0)]))
  (r:oA H rd d pg<|8*at_)(hc:H ct=aq (.ba []))(nd:H0 dT=aI)(n1:H0 d=aI)(n2:H0 ct=aI)(ho:H0 48=aq zG)(e1:dT≠d)(e2:ct≠d)(e3:ct≠dT)
  (h:∀A:Tl,A.T=T->∀H',lY [] H0 H'->(∀x∈A.ms,H0 x=aI)->nZ A pg H' ⟨8*at_,[],ag,ag,aI,0⟩->Q .none H'):
  (vE).ev (sH mP [.ref T,.bytes pg,.int z,.int 32768]) H E (λ_ H=>Q .none H) (λ_ _=>False) Q:=by
 have nm:∀{y:bp},y∉([]:List bp):=iN;have ne:T≠dT:=λq=>by have hT:=q▸hT;have hT:=hd▸hT;cases hT
 have w:∀{h:AH}(o:AO),h T=aq (.inst 238 dT)->upd h dT o T=aq (.inst 238 dT):=λo e=>by rw[lV ne];exact e
 have th:∀y∈[dT,d,ct],H y≠aI:=λy m=>by
  rcases aA.mp m with rfl|m
  .rw[hd];exact λc=>by exact rQ c
  rcases aA.mp m with rfl|m
  .rw[r.2.1];exact λc=>by exact rQ c
  .rw[aH.mp m,hc];exact λc=>by exact rQ c
 refine lw rfl ("")<|Qh λla H1 lan k1 tl=>?_;have tl:=tl _ th;have Yo:=k1 _ _ hT nm;refine iL Yo<|iL (k1 _ _ hd nm)<|iM (ak rfl) ?_;refine lw rfl ("")<|Qg λda H2 dan k2 td=>?_;have td:=td [dT,d,ct] λy m=>by
  by_cases q:y=dT
  .rw[q,lT];exact λc=>by exact rQ c
  .rw[lV q];exact λc=>th y m<|k1.F6 c
 have TL:=k2 _ _ (w _ Yo) nm;refine iL TL<|iL (k2 _ _ (lT _ _ _) nm)<|iM (ak rfl) ?_;refine iL (w _ TL)<|iL (lT _ _ _)<|iM (ak rfl) ?_;rw[sN];have k:lY [dT] H H2:=((k1.any (ms:=[dT])).upd (.head _)).trans k2.any;have km:∀{o},lY [dT,d,ct] H2 (upd H2 dT o):=lY.refl.upd<|.head _;have k1':∀{o},lY [dT,d,ct] H1 (upd H1 dT o):=lY.refl.upd<|.head _;have nT:T∉[dT,d,ct]:=λm=>by
  rcases aA.mp m with q|m
  .exact ne q
  rcases aA.mp m with q|m
  .have hT:=q▸hT;have hT:=r.2.1▸hT;cases hT
  .have hT:=(aH.mp m)▸hT;have hT:=hc▸hT;cases hT
 have nr:rd∉[dT,d,ct]:=λm=>by
  let hr:=r.1;rcases aA.mp m with q|m
  .let hr:=q▸hr;have hr:=hd▸hr;cases hr
  rcases aA.mp m with q|m
  .let hr:=q▸hr;have hr:=r.2.1▸hr;cases hr
  .let hr:=(aH.mp m)▸hr;have hr:=hc▸hr;cases hr
 have n0:∀x∈[dT,d,ct],H0 x=aI:=λy m=>by
  rcases aA.mp m with rfl|m
  .exact nd
  rcases aA.mp m with rfl|m
  .exact n1
  .rw[aH.mp m];exact n2
 have no:48∉[dT,d,ct]:=λm=>by let:=n0 _ m;let this:=ho▸this;exact rQ this
 let out:∀{y:bp}{o o':AO},H y=aq o->y≠dT->upd H2 dT o' y=aq o:=λe q=>by rw[lV q];exact k _ _ e λm=>q<|aH.mp m
 refine h ⟨T,dT,rd,d,ct,la,da⟩ rfl _ (((k0.trans k1).oY nd).trans k2|>.oY nd) n0 ⟨⟨w _ TL,nT,nr,?_,no,?_,td.keep km,e1,e2,e3⟩,⟨out r.1 λq=>nr<|q▸.head _,out r.2.1 e1.symm,r.2.2⟩,out hc e3,.none,.none,.none,lT _ _ _,yE.no,FY.no⟩
 .exact out (k0 _ _ ho nm) λq=>no<|q▸.head _
 .exact((tl.keep k1').keep k2.any).keep km
theorem QK{at_:Nat}{z:Int}(hz:z=(at_:Nat)){H0:AH}(k0:lY [] H0 H)(hT:H T=aq (.inst 238 dT))(hd:H dT=aq (.at []))(nd:H0 dT=aI)(ho:H0 48=aq zG)
  (h:∀A:Tl,A.T=T->∀H',lY [] H0 H'->(∀x∈A.ms,H0 x=aI)->nZ A pg H' ⟨8*at_,[],ag,ag,aI,0⟩->Q .none H'):
  (ux).ev (sH mP [.ref T,.bytes pg,.int z,.int 32768]) H E (λ_ H=>Q .none H) (λ_ _=>False) Q:=by
 have nm:∀{y:bp},y∉([]:List bp):=iN;have ne:T≠dT:=λq=>by rw[q,hd]at hT;cases hT
 have w:∀{h:AH}(o:AO),h T=aq (.inst 238 dT)->upd h dT o T=aq (.inst 238 dT):=λo e=>by rw[lV ne];exact e
 refine lw rfl ("")<|Nq (pg:=pg) hz λrd d H1 rn dn k1 r1=>?_;have rT:=l9 hT rn;have rd':=l9 hd rn;let dT':=l9 hT dn;have dd:=l9 hd dn;refine iL (k1 _ _ hT nm)<|iL (k1 _ _ hd nm)<|iM (ak rfl) ?_;let Yo:=w (.at [(81,.ref rd)])<|k1 _ _ hT nm;refine iL Yo<|iL (lT _ _ _)<|iM (ak rfl) ?_;let TL:=w (.at [(81,.ref rd),(86,.int 32768)]) Yo;let r2:=(r1.up (o:=.at [(81,.ref rd)]) rd'.symm dd.symm).up (o:=.at [(81,.ref rd),(86,.int 32768)]) rd'.symm dd.symm;have k2:=((k0.trans k1).oY (o:=.at [(81,.ref rd)]) nd).oY (o:=.at [(81,.ref rd),(86,.int 32768)]) nd;let hd2:=lT (upd H1 dT<|.at [(81,.ref rd)]) dT<|.at [(81,.ref rd),(86,.int 32768)];revert TL r2 k2 hd2;show _->_->_->_->(vF).ev (sH mP [.ref T,.bytes pg,.int z,.int 32768]) (upd (upd H1 dT<|.at [(81,.ref rd)]) dT<|.at [(81,.ref rd),(86,.int 32768)]) E (λ_ H=>Q .none H) (λ_ _=>False) Q;generalize upd (upd H1 dT<|.at [(81,.ref rd)]) dT (.at [(81,.ref rd),(86,.int 32768)])=H2;intro TL r2 k2 hd2;refine iM (aQ _)<|iP λct cn=>?_;have cT:=l9 TL cn;have cd:=l9 hd2 cn;let cr:=l9 r2.1 cn;let cd':=l9 r2.2.1 cn;let VK:upd H2 ct (.ba []) T=aq (.inst 238 dT):=by rw[lV cT];exact TL
 let hd3:upd H2 ct (.ba []) dT=aq (.at [(81,.ref rd),(86,.int 32768)]):=by rw[lV cd];exact hd2
 refine iL VK<|iL hd3<|iM (ak rfl) ?_;refine iL (w _ VK)<|iL (lT _ _ _)<|iM (ak rfl) ?_;rw[sN];refine iL (w _ VK)<|iL (lT _ _ _)<|iM (ak rfl) ?_;rw[sN];refine iL (w _ VK)<|iL (lT _ _ _)<|iM (ak rfl) ?_;rw[sN];refine iL (w _ VK)<|iL (lT _ _ _)<|iM (ak rfl) ?_;rw[sN];refine iL (w _ VK)<|iL (lT _ _ _)<|iM (ak rfl) ?_;rw[sN];exact VJ ((k2.new cn).oY nd) (w _ VK) (lT _ _ _) ((r2.new cn).up rd'.symm dd.symm) (by rw[lV cd.symm];exact lT _ _ _) nd (k0.F6 dn) (k2.F6 cn) ho dd cd'.symm cd.symm h
end
theorem oB.uniq{is:List Int}:∀{vs:List aZ}{xs:List V},oB vs xs->oB vs (is.map iR)->xs=is.map iR:=by
 induction is with
 |nil=>intro vs xs h h';cases h';cases h;rfl
 |cons i is ih=>
  intro vs xs h h';cases h' with
  |cons a b=>
   obtain⟨t,rfl⟩:=a.int_inv;cases h with
   |cons c d=>cases c;rw[ih d b];rfl
theorem SL:(vQ.map λ(n:Nat)=>iR n)=(vQ.map λ(n:Nat)=>(n:Int)).map iR:=rfl
section
variable{H:AH}{Q:V->AH->Prop}{E:AH->Prop}{S:rE}{X:PX}{h:Heap}{pg:Pg}
theorem SM(r:Rep S X H h):Rep S X (upd H 48 zG) h/\lY [] H (upd H 48 zG):=by
 let K:=r.b.g.KX;have b0:=K _ _<|Pp G.w.params;have b:=r.b.base _ _ b0;let v:oB (Ih (KK G.w.params) 48 0) (vQ.map λ(n:Nat)=>iR n):=M5 _;let e:Enc h 48 zG:=⟨_,0,b,v,by decide⟩;let u:∀o,H 48=aq o->o=zG:=λo ho=>by
  cases o with
  |tup xs=>
   obtain⟨vs,n,h1,h2,_⟩:=r.b.obj _ _ ho;have h1:=b▸h1;cases h1;exact congrArg AO.tup ((h2.uniq (is:=vQ.map λ(n:Nat)=>(n:Int)) v).trans SL.symm)
  |_=>let:=(r.b.dj _ _ ho rfl).1;rw[b0]at this;exact rQ this
 have l:∀a o,upd H 48 zG a=aq o->(a=48/\o=zG)∨(a≠48/\H a=aq o):=λa o q=>by
  by_cases z:a=48
  .subst z;rw[lT]at q;obtain rfl:=qz q;exact .inl ⟨rfl,rfl⟩
  .rw[lV z]at q;exact .inr ⟨z,q⟩
 refine⟨⟨⟨r.b.g,r.b.base,r.b.sP,λa o q=>?_,λa o q m=>?_⟩,λp hp=>?_⟩,λa o q _=>?_⟩
 .rcases l a o q with⟨rfl,rfl⟩|⟨_,q⟩
  .exact e
  .exact r.b.obj a o q
 .rcases l a o q with⟨rfl,rfl⟩|⟨_,q⟩
  .exact xL m
  .exact r.b.dj a o q m
 .obtain⟨a1,a2,L,a3,a4,a5,a6,a7⟩:=r.f p hp;refine⟨a1,a2,L,a3,a4,a5,a6,?_⟩;rw[lV λz=>by rw[z,b0]at a5;cases a5];exact a7
 .by_cases z:a=48
  .subst z;rw[lT,u o q]
  .rw[lV z];exact q
theorem mH.ord{n:Nat}{f:aZ}{args:List V}(c:∀H1,lY [] H H1->H1 48=aq zG->mH n f args H1 Q E):mH n f args H Q E:=
 λS X A s vs ok r v sm=>let⟨r',k⟩:=SM r;c _ k (lT _ _ _) S X A s vs ok r' v
theorem SN{at_:Nat}(ho:H 48=aq zG)(hq:∀A:Tl,∀H',lY [] H H'->(∀x∈A.ms,H x=aI)->nZ A pg H' ⟨8*at_,[],ag,ag,aI,0⟩->Q (.ref A.T) H'):mH 6 (.ref 238) [.bytes pg,.int at_,.int 32768] H Q E:=by refine BA (C:=238) (fI:=192) (n:=5) (zU.Ω<|.tail _ (.tail _ (.head _))) (Pn _) (zU.fn<|.tail _ (.tail _ (.tail _ (.head _)))) λdT T dn xn ne=>?_;refine nS (n:=4) Aw zv .nil rfl ?_;let k2:=((ly (ms:=[]) (H:=H)).new (o:=.at []) dn).oY (o:=.inst 238 dT) xn;exact QK (Q:=λr H'=>r=.none/\Q (.ref T) H') (pg:=pg) (at_:=at_) rfl k2 (lT _ _ _) (by rw[lV ne];exact lT _ _ _) dn ho λA eT H3 k3 n3 i=>⟨rfl,eT▸hq A H3 k3 n3 i⟩
theorem SO(hp:pg.length<=100000){at_ k:Nat}(hq:match runM pg k ⟨8*at_,[],ag,ag,aI,0⟩with
  |.pd=>False
  |.bad=>∀H',lY [] H H'->E H'
  |.told out pl=>∀a H',lY [] H H'->H' a=aq (.tup [.bytes out,.int (pl:Nat)])->Q (.ref a) H'):mH 9 (.ref 250) [.bytes pg,.int at_] H Q E:=by
 refine mH.ord λH1 k1 ho=>?_;refine nS (n:=8) Md IY (XK _) rfl ?_;refine lw rfl ("")<|SN ho λA H2 k2 n2 i=>?_;have un:∀{H':AH},lY A.ms H2 H'->lY [] H H':=λk3=>k1.trans<|k2.fresh k3 n2;obtain⟨lit,lI,fx,e,l,f⟩:=i.o;refine iL i.st.hT<|iL e<|lw rfl (dg _)<|SK (k:=k) hp i ?_;cases er:runM pg k ⟨8*at_,[],ag,ag,aI,0⟩with
 |pd=>let hq:=er▸hq;exact hq
 |bad=>have hq:=er▸hq;exact λH' k3=>hq H' (un k3)
 |told out pl=>
  rw[er]at hq;intro H' s k3 i3 eo ep;obtain⟨lit,lI,fx,e,l,f⟩:=i3.o;refine iL i3.st.hT<|iL e<|iL i3.c<|iL i3.st.hT<|iL e<|iL i3.r.1<|iL i3.r.2.1<|iM (aQ _)<|QG i3.r<|iM (ak rfl)<|iP λt tn=>?_;refine hq t _ ((un k3).new tn) ?_;rw[lT,eo,ep]
end
theorem VL:TG:=λpg at_ H Q E r hp _ hr hq=>by obtain⟨k,e⟩:=hr;exact SO hp (k:=k) (by rw[e];exact hq)
theorem VM(P:Params):nsIn (KK P) mainGlobals (mV 12)=aq (aq<|.ref 385):=("$")
abbrev rL:RowW:=PySem.Challenge.rw_nt0279_01.row.toRowW
theorem QL{P:Params}{h:Heap}{ns:List Int}:∀{vs:List aZ},WellAll P h vs (ns.map .int)->oB vs (ns.map iR):=by
 induction ns with
 |nil=>intro vs x;cases x;exact .nil
 |cons n ns ih=>
  intro vs x;cases x with
  |cons a b=>cases a;exact .cons (.int _ _) (ih b)
theorem SP{args:List WData}(h:rL.claim.pre args=af):∃ns:List Int,args=[.list (ns.map .int)]/\ns.length<=63:=by
 obtain⟨h1,h2⟩:=pre_splitW h;cases args with
 |nil=>exact xL h1
 |cons d r=>
  let h1:(WShape.has [] d (.list .int)&&WShape.hasAll [] r [])=af:=h1;rw[cN]at h1;obtain⟨xs,rfl,hx⟩:=hasW_list h1.1;obtain⟨ns,rfl⟩:=items_int hx;cases r with
  |cons=>cases h1.2
  |nil=>
   refine⟨ns,rfl,?_⟩;let e:rL.pre=.and (.not (.lt (.lit (.int (63:Nat))) (.len (.arg 0)))) (.lit (.bool af)):=rfl;let h2:=e▸h2;let v:WTm.value rL.records (.and (.not (.lt (.lit (.int (63:Nat))) (.len (.arg 0)))) (.lit (.bool af))) {args:=[WData.list (ns.map .int)]}=aq (.bool (!decide ((63:Int)<(ns.length:Nat)))):=by cases q:decide ((63:Int)<(ns.length:Nat))<;>simp[WTm.value,less?,Num.less?,q]
   unfold WTm.holds at h2;let h2:=v▸h2;by_cases c:(63:Int)<(ns.length:Nat)
   .let h2:=(decide_eq_true c)▸h2;exact xL h2
   .exact("d3>OG?5Rp4p*$#",c)
theorem SR(args:List WData):rL.claim.post args (.bool af) args=af:=("$")
theorem Yp:NX G:=λgf=>by
 let sm:oz G.s:=⟨gf.g0,rfl⟩;let rep:Rep [] (λ_=>aI) (λ_=>aI) G.h₀:=⟨⟨gf,λ_ _ e=>e,λ_ _ e=>(by cases e),λ_ _ e=>(by cases e),λ_ _ e=>(by cases e)⟩,λ_ m=>(by cases m)⟩;let c:mH 11 (.ref 385) [.ref G.Ra] (λ_=>aI) (λx _=>x=.bool af) (λ_=>False):=VB (P8 VL) λ_ _=>rfl;refine rS (qe (c [] _ callerA G.s [.ref G.Ra] ⟨by decide,rfl,by decide,rfl,rfl⟩ rep<|.cons (.ref G.Ra) .nil) λr s' h=>?_);rcases r with e|(v|_|_|_)
 .obtain⟨_,_,_,_,_,_,_,_,_,f⟩:=h;exact f
 .exact h
 .exact h
 .exact h
 .refine gu λP9 mG=>?_;obtain⟨sm',x,H',hx,r',rfl⟩:=h;refine mG ?_;exact⟨hx.bool_inv,r'.b.base,sm'.sm⟩
theorem walk:WalkX vq Bh (XL vq []) HK.says rL dL []:=by
 intro w Bg nW mg mb G y a o pm cd doc dV kV h1 h2 h3 h4 h5 g0 args vals as Lw NV hr hw hm;obtain⟨ns,rfl,hl⟩:=SP Lw;let K0:(KK w.params).In nW.heap:=kIn_of y;let ea:a=385:=by let e:=mg_of K0 G.T.g<|VM w.params;let e':mg (mV 12)=aq (.ref a):=h5;have e':=e▸e';cases e';rfl
 subst ea;obtain⟨v,vs,rfl,hv,qG⟩:∃v vs,vals=v::vs/\Well w.params nW.heap v (.list (ns.map .int))/\WellAll w.params nW.heap vs []:=wellAll_cons_inv hw;cases qG;cases hv with
 |@list sc vs _ hg hw=>
 have vr:=QL hw;refine pk (NY Yp ⟨w,ExcName.means Bg.heap,mg,mb,nW,sc,ns⟩ ⟨K0,G.T,g0,vs.toArray,0,hg,vr,hl⟩) (λv s' h=>?_) λ_ _ f=>f.elim;obtain⟨rfl,h1,h2,h3⟩:=h;exact⟨.inl ⟨.bool af,.bool af,[],rfl,λ_=>rfl,.bool af,SR _,λ_=>⟨.nil,λ_ m=>by cases m⟩⟩,.of_keep h1,h3,.of_eq h2⟩
theorem done:PySem.Challenge.rw_nt0279_01.Holds:=hd walk
end Mine
end
end
end
theorem PySem.Challenge.cw_nt0279_01_holds : PySem.Challenge.rw_nt0279_01.Holds :=
 Mine.done
