import PyProof.Rows.All
import Wide.All
import OpenK.AllK
import Wide.FinOn
import PySem.Challenge.RW_rg0280_01
set_option Elab.async false
set_option maxRecDepth 100000
set_option linter.all false
set_option bootstrap.genMatcherCode false
set_option genSizeOf false
set_option genInjectivity false
set_option genCtorIdx false
set_option maxHeartbeats 4000000
local macro_rules | `(tactic| w_up) => `(tactic| first
| with_reducible assumption
| exact Nat.lt_of_lt_of_le (by with_reducible assumption) (by decide)
| exact Nat.lt_of_le_of_lt (by with_reducible assumption) (by decide)
| exact Nat.le_trans (by with_reducible assumption) (by decide)
| exact Nat.le_of_lt (by with_reducible assumption)
| exact Nat.le_of_lt (Nat.lt_of_lt_of_le (by with_reducible assumption) (by decide))
| exact Nat.le_of_eq (by with_reducible assumption)
| exact Nat.lt_of_succ_lt (by with_reducible assumption)
| exact Nat.lt_succ_of_lt (by with_reducible assumption)
| exact Nat.lt_trans (by with_reducible assumption) (by with_reducible assumption)
| exact Nat.lt_of_lt_of_le (by with_reducible assumption) (by with_reducible assumption)
| exact Nat.lt_of_le_of_lt (by with_reducible assumption) (by with_reducible assumption)
| exact Nat.le_trans (by with_reducible assumption) (by with_reducible assumption)
| exact up1 (by with_reducible assumption) (by rfl)
| exact up1 (up1 (by with_reducible assumption) (by rfl)) (by rfl)
| exact jhg (by with_reducible assumption) (by rfl)
| exact jgI (by with_reducible assumption)
| lia
| omega)
namespace Mine
open PySem PySem.W PyProof.Rows
noncomputable def zf{α:Type}(x:Nat)(k:Nat->α):α:=Nat.rec (motive:=fun _=>α) (k 0) (fun n _=>k (Nat.succ n)) x
theorem Zt{α:Type}(x:Nat)(k:Nat->α):zf x k=k x:=by cases x<;>rfl
noncomputable def oZ(st:SharedT->Thread->Option (SharedT×Thread))(ok:Thread->Bool)(n:Nat):SharedT->Thread->Option SharedT :=
 Nat.rec (motive:=fun _=>SharedT->Thread->Option SharedT) (fun _ _=>none)
  (fun _ ih s t=>Bool.rec (motive:=fun _=>Option SharedT)
   (Bool.rec (motive:=fun _=>Option SharedT) none
    (Option.rec (motive:=fun _=>Option SharedT) none
     (fun q=>Prod.rec (motive:=fun _=>Option SharedT)
      (fun s' t'=>SharedT.rec (motive:=fun _=>Option SharedT)
       (fun T n l g d k os=>zf n fun n=>zf k fun k=>ih ⟨T,n,l,g,d,k,os⟩ t') s') q) (st s t)) (ok t))
   (some s) (through t)) n
noncomputable def oM(P:Params):BT:=((((((((((BT.nil.ins 0 (boot_o_0 P)).ins 1 (boot_o_1 P)).ins 2 (boot_o_2 P)).ins 3 (boot_o_3 P)).ins 4 (boot_o_4 P)).ins 5 (boot_o_5 P)).ins 6 (boot_o_6 P)).ins 7 (boot_o_7 P)).ins 8 (boot_o_8 P)).ins 9 (boot_o_9 P)).ins 10 (boot_o_10 P)
theorem jcL(P:Params):boot_heap P=absHeap (oM P) 11 {}:=by kernel_rfl
theorem bn1(P:Params):((boot_heap P).isNs mainGlobals,(boot_heap P).objs.size)=(true,11):=by kernel_rfl
theorem bn2(P:Params):(boot_heap P).nsMap mainGlobals "__annotations__" = some (.ref 6):=by kernel_rfl
theorem Vh{p:Program}{w:World}{n₀:Nat}{ann:Option Value}:∀ (n:Nat) (s:SharedT) (t:Thread) (s':SharedT),oZ (stepT (denote treeTable) p w) (stepOk n₀ ann) n s t=some s' ->
  topRun treeTable p w n₀ ann n s.abs t=some s'.abs
 |0,_,_,_,h=>by cases h
 |n+1,s,t,s',h=>by
  unfold topRun
  change Bool.rec (motive:=fun _=>Option SharedT) (Bool.rec (motive:=fun _=>Option SharedT) none
    (Option.rec (motive:=fun _=>Option SharedT) none
     (fun q=>Prod.rec (motive:=fun _=>Option SharedT)
      (fun s' t'=>SharedT.rec (motive:=fun _=>Option SharedT)
       (fun T n' l g d k os=>zf n' fun n'=>zf k fun k=>oZ (stepT (denote treeTable) p w) (stepOk n₀ ann) n ⟨T,n',l,g,d,k,os⟩ t') s') q) (stepT (denote treeTable) p w s t)) (stepOk n₀ ann t))
   (some s) (through t)=some s' at h
  cases ht:through t with
  |true=>rw [ht] at h;cases h;rfl
  |false =>
   rw [ht] at h
   cases hk:stepOk n₀ ann t with
   |false=>rw [hk] at h;cases h
   |true =>
    rw [hk] at h
    cases hs:stepT (denote treeTable) p w s t with
    |none=>rw [hs] at h;cases h
    |some q =>
     obtain ⟨s₂,t₂⟩:=q
     rw [hs] at h
     rw [stepT_spec hs]
     obtain ⟨T,n',l,g,d,k,os⟩:=s₂
     change zf n' (fun n'=>zf k fun k=>oZ (stepT (denote treeTable) p w) (stepOk n₀ ann) n ⟨T,n',l,g,d,k,os⟩ t₂)=some s' at h
     rw [Zt,Zt] at h
     exact Vh n _ _ _ h
noncomputable def jgF(q:Program)(loose mods:List Str)(Xt:Shared->Bool){α:Type}(Yf:Shared->α)(prog:Program)(h₀:Heap)(s:Shared) :=
 (staticsOk mods h₀ s.heap&&namesBound prog s.heap&&gensDone s&&laidKept h₀ s.heap,openSeen q loose mods Xt true s,Yf s)
theorem jcH{p q:Program}{loose:List Str}{Xt:Shared->Bool}{α:Type}{Yf:Shared->α}{Ya:World->α}{N M:Nat}(hN:Nat.ble 600 N=true)(hM:Nat.ble M N=true)(e:opening p=plainProg p.main.scope.names)(f:∀ s,fenceModules? p s=some s)
  (h:∀ (w:World) (os:OsState),(oZ (stepT (denote treeTable) p w) (stepOk 11 (some (.ref 6))) M ⟨oM w.params,11,{},Array.mk [],boot_drawn,boot_toks,os⟩ (topStub p)).map
   (fun s=>jgF q loose (importedModules p.main.body) Xt Yf p (boot_heap w.params) s.abs)=some (true,openGood q loose,Ya w)):LeftO p q loose Xt Yf Ya N true:=fun w=>by
 obtain ⟨s₀,a,b⟩:=Option.map_eq_some_iff.mp (boot_open e hN f w)
 obtain ⟨hp,g,d,k,os⟩:=s₀
 obtain ⟨rfl,b⟩:=Prod.mk.inj b
 obtain ⟨rfl,b⟩:=Prod.mk.inj b
 obtain ⟨rfl,rfl⟩:=Prod.mk.inj b
 obtain ⟨s,hs,hl⟩:=Option.map_eq_some_iff.mp (h w os)
 have r:=Vh _ _ _ _ hs
 have r:=topRun_mono (N - M) _ _ _ _ r
 rw [show M+(N - M)=N by have:=Nat.le_of_ble_eq_true hM;omega] at r
 obtain ⟨l1,l2⟩:=Prod.mk.inj hl
 obtain ⟨b1,b2⟩:=Prod.mk.inj (bn1 w.params)
 unfold openEnds
 rw [a]
 show (topFrom treeTable p w N ⟨boot_heap w.params,Array.mk [],boot_drawn,boot_toks,os⟩).map _=_
 unfold topFrom
 show Option.map _ (match (boot_heap w.params).isNs mainGlobals&&true with | true=>_ | false=>_)=_
 rw [b1]
 show Option.map _ ((topRun treeTable p w (boot_heap w.params).objs.size ((boot_heap w.params).nsMap mainGlobals "__annotations__") N ⟨boot_heap w.params,Array.mk [],boot_drawn,boot_toks,os⟩ (topStub p)).bind _)=_
 rw [b2,bn2]
 have r':topRun treeTable p w 11 (some (.ref 6)) N ⟨boot_heap w.params,Array.mk [],boot_drawn,boot_toks,os⟩ (topStub p)=some s.abs:=by
  rw [jcL];exact r
 rw [r']
 show Option.map _ (match staticsOk (importedModules p.main.body) (boot_heap w.params) s.abs.heap&&namesBound p s.abs.heap&&gensDone s.abs&&laidKept (boot_heap w.params) s.abs.heap with | true=>some s.abs | false=>none)=_
 rw [l1]
 exact congrArg some l2
noncomputable def qv:Program:=view PySem.Challenge.rw_rg0280_01.prog ((List.range 61).filter fun i=>!([0,5,14,41].contains i))
noncomputable def lo:List Str:=["OPERANDS"]
noncomputable def xt(s:Shared):Bool:=xlAt qv [] s&&recOk (RowW.records PySem.Challenge.rw_rg0280_01.row.toRowW) s
theorem jdZ:opening PySem.Challenge.rw_rg0280_01.prog=plainProg PySem.Challenge.rw_rg0280_01.prog.main.scope.names:=by kernel_rfl
theorem jbI(s:Shared):fenceModules? PySem.Challenge.rw_rg0280_01.prog s=some s:=by kernel_rfl
noncomputable def jad(st:(Code->Sem Fin)->Program->World->SharedT->Thread->Option (SharedT×Thread))(ok:Nat->Option Value->Thread->Bool)(den:(String->Option Builtin)->Code->Sem Fin)(tb:String->Option Builtin)(w:World)(os:OsState):Option SharedT :=
 oZ (st (den tb) PySem.Challenge.rw_rg0280_01.prog w) (ok 11 (some (.ref 6))) 3000 ⟨oM w.params,11,{},Array.mk [],boot_drawn,boot_toks,os⟩ (topStub PySem.Challenge.rw_rg0280_01.prog)
theorem jbn(w:World)(os:OsState):jad stepT stepOk denote treeTable w os=jad PySem.W.Fast.tw10156331382660048174 PySem.W.Fast.tw6613529449190102663 PySem.W.Fast.tw11892475500146522536 PySem.W.Fast.tw14364793385576792824 w os:=by
 rw [PySem.W.Fast.te10156331382660048174,PySem.W.Fast.te6613529449190102663,PySem.W.Fast.te11892475500146522536,PySem.W.Fast.te14364793385576792824]
theorem said:OpenLaw.wellSaid PySem.Challenge.rw_rg0280_01=true:=by kernel_rfl
end Mine
namespace Mine
open PySem PySem.W PyProof.Rows
noncomputable def jbH(w:World)(os:OsState)(b:Bool):Option SharedT:=jad PySem.W.Fast.tw10156331382660048174 PySem.W.Fast.tw6613529449190102663 PySem.W.Fast.tw11892475500146522536 PySem.W.Fast.tw14364793385576792824 (w.withFollow "special-get-raises" b) os
noncomputable def uj(w:World)(s:SharedT):=jgF qv lo (importedModules PySem.Challenge.rw_rg0280_01.prog.main.body) xt (fun _=>()) PySem.Challenge.rw_rg0280_01.prog (boot_heap w.params) s.abs
theorem at3(w:World)(os:OsState):(jbH w os false).map (uj w)=some (true,openGood qv lo,()):=by kernel_rfl
theorem at4(w:World)(os:OsState):(jbH w os true).map (uj w)=some (true,openGood qv lo,()):=by kernel_rfl
end Mine
set_option tactic.hygienic false
namespace Mine
theorem up1{a m c n:Nat}(h:a<m)(d:Nat.ble (m+c) n=true):a+c<n:=Nat.lt_of_lt_of_le (Nat.add_lt_add_right h c) (Nat.le_of_ble_eq_true d)
theorem jhg{a b c n:Nat}(h:a+b<n)(d:Nat.ble c b=true):a+c<n:=Nat.lt_of_le_of_lt (Nat.add_le_add_left (Nat.le_of_ble_eq_true d) a) h
theorem jgI{a b n:Nat}(h:a+b<n):a<n:=Nat.lt_of_le_of_lt (Nat.le_add_right a b) h
theorem dn{x a c d n:Nat}(r:Nat)(h:x≤a+c)(k:a+d<n)(e:Nat.ble (c+r) d=true:=by rfl):x+r<n :=
 Nat.lt_of_le_of_lt (Nat.le_trans (Nat.add_le_add_right h r) (by rw [Nat.add_assoc];exact Nat.add_le_add_left (Nat.le_of_ble_eq_true e) a)) k
open PySem
set_option genCtorIdx true in
inductive MV where
 | none
 | bool (b:Bool)
 | int (i:Int)
 | str (s:String)
 | tup (xs:List MV)
 | ref (a:Nat)
 | clist (xs:List Int)
set_option genCtorIdx true in
inductive MObj where
 | list (xs:List MV)
 | idict (es:List (Int×MV))
 | fdict (es:List (Int×MV))
 | tdict (es:List ((Int×Int)×MV))
 | inst (c:String) (d:Nat) (fs:List (String×MV))
 | own (a:Nat)
noncomputable def MObj.dct(o:MObj):Option Nat:=o.casesOn (fun _=>.none) (fun _=>.none) (fun _=>.none) (fun _=>.none) (fun _ d _=>some d) (fun _=>.none)
noncomputable def MObj.isOwn(o:MObj):Bool:=o.casesOn (fun _=>false) (fun _=>false) (fun _=>false) (fun _=>false) (fun _ _ _=>false) (fun _=>true)
noncomputable def MObj.fz(o:MObj):Bool:=o.casesOn (fun _=>false) (fun _=>false) (fun _=>true) (fun _=>false) (fun _ _ _=>false) (fun _=>false)
noncomputable def St:=Nat->Option MObj
noncomputable def St.put(st:St)(a:Nat)(o:MObj):St:=fun b=>if b=a then some o else st b
noncomputable abbrev ja:=List (String×Option MV)
noncomputable def lk:ja->String->Option MV
 |[],_=>.none
 | (y,v)::r,x=>if y=x then v else lk r x
noncomputable def yf:ja->String->MV->ja
 |[],_,_=>[]
 | (y,u)::r,x,v=>if y=x then (y,some v)::r else (y,u)::yf r x v
noncomputable def lkF:List (String×MV)->String->Option MV
 |[],_=>.none
 | (y,v)::r,x=>if y=x then some v else lkF r x
noncomputable def Z9:List (String×MV)->String->MV->List (String×MV)
 |[],x,v=>[(x,v)]
 | (y,u)::r,x,v=>if y=x then (y,v)::r else (y,u)::Z9 r x v
noncomputable def lkD{κ:Type}[DecidableEq κ]:List (κ×MV)->κ->Option MV
 |[],_=>.none
 | (y,v)::r,x=>if y=x then some v else lkD r x
noncomputable def Ju{κ:Type}[DecidableEq κ]:List (κ×MV)->κ->MV->List (κ×MV)
 |[],x,v=>[(x,v)]
 | (y,u)::r,x,v=>if y=x then (y,v)::r else (y,u)::Ju r x v
set_option genCtorIdx true in
inductive BOp where | add | sub | mul | fdiv | mod | shl | shr | band | bor | bxor
set_option genCtorIdx true in
inductive COp where | eq | ne | lt | le | gt | inn | nin
inductive PT where
 | one (x:String)
 | many (xs:List String)
mutual
inductive ME where
 | none
 | bool (b:Bool)
 | int (i:Int)
 | str (s:String)
 | var (x:String)
 | gstr (x v:String)
 | optab (i:ME)
 | bin (op:BOp) (l r:ME)
 | neg (e:ME)
 | not (e:ME)
 | and (l r:ME)
 | or (l r:ME)
 | ite (t b o:ME)
 | isn (e:ME)
 | isnn (e:ME)
 | cmp (op:COp) (l r:ME)
 | cmp2 (op₁ op₂:COp) (a b c:ME)
 | call (f:String) (args:List ME)
 | bcall (f:String) (args:List ME)
 | mklist (it:MI)
 | mkdlist (e:ME)
 | meth (o:ME) (m:String) (args:List ME)
 | attr (o:ME) (a:String)
 | sub (o i:ME)
 | sfrom (o lo:ME)
 | sto (o hi:ME)
 | srev (o:ME)
 | tup (xs:List ME)
 | list (xs:List ME)
 | idict0
 | tdict0
 | comp (elt:ME) (t:PT) (it:MI) (c:Option ME)
inductive MI where
 | of (e:ME)
 | range (e:ME)
 | enum (e:ME)
 | zip (a b:ME)
inductive MT where
 | var (x:String)
 | attr (o:ME) (a:String)
 | sub (o i:ME)
 | tup (ts:List MT)
end
inductive MS where
 | assign (t:MT) (e:ME)
 | expr (e:ME)
 | ret (e:ME)
 | ife (c:ME) (t o:List MS)
 | whil (c:ME) (b:List MS)
 | fore (t:PT) (it:MI) (b:List MS)
 | ford (x:String) (e:ME) (b:List MS)
noncomputable abbrev jt:=String->List MV->St->(MV->St->Prop)->Prop
def jq(st:St)(o:MObj)(K:MV->St->Prop):Prop:=∀ a,st a=Option.none->K (.ref a) (st.put a o)
noncomputable def jb:Nat:=2 ^ 20
noncomputable def jP:Int:=2 ^ 63
noncomputable def Xs:Int:=4096
inductive BinR (st:St) (K:MV->St->Prop):BOp->MV->MV->Prop
 | addi {x y:Int} (k:K (.int (x+y)) st):BinR st K .add (.int x) (.int y)
 | addl {r t:Nat}{xs ys:List MV} (h:st r=some (.list xs)) (h':st t=some (.list ys)) (l:xs.length+ys.length<jb) (k:jq st (.list (xs++ys)) K):BinR st K .add (.ref r) (.ref t)
 | sub {x y:Int} (k:K (.int (x - y)) st):BinR st K .sub (.int x) (.int y)
 | mul {x y:Int} (h : -jP<x/\x<jP/\-jP<y/\y<jP) (k:K (.int (x*y)) st):BinR st K .mul (.int x) (.int y)
 | rep {r:Nat}{n:Int}{x:MV} (h:st r=some (.list [x])) (l:0≤n/\n<jb) (k:jq st (.list (List.replicate n.toNat x)) K):BinR st K .mul (.ref r) (.int n)
 | fdiv {x y:Int} (h:0<y/\y<1073741824) (k:K (.int (x / y)) st):BinR st K .fdiv (.int x) (.int y)
 | mod {x y:Int} (h:0<y) (k:K (.int (x % y)) st):BinR st K .mod (.int x) (.int y)
 | shl {x y:Int} (h:0≤x/\x<jP/\0≤y/\y<Xs) (k:K (.int (x*2 ^ y.toNat)) st):BinR st K .shl (.int x) (.int y)
 | shr {x y:Int} (h:0≤x/\0≤y/\y<jP) (k:K (.int (x / 2 ^ y.toNat)) st):BinR st K .shr (.int x) (.int y)
 | band {x y:Int} (h:0≤x/\0≤y) (k:K (.int ((x.toNat &&& y.toNat:Nat):Int)) st):BinR st K .band (.int x) (.int y)
 | bor {x y:Int} (h:0≤x/\0≤y) (k:K (.int ((x.toNat ||| y.toNat:Nat):Int)) st):BinR st K .bor (.int x) (.int y)
 | bxor {x y:Int} (h:0≤x/\0≤y) (k:K (.int ((x.toNat ^^^ y.toNat:Nat):Int)) st):BinR st K .bxor (.int x) (.int y)
def YN(op:BOp)(a b:MV)(st:St)(K:MV->St->Prop):Prop:=BinR st K op a b
inductive EqR (st:St) (K:Bool->Prop):MV->MV->Prop
 | nn (k:K true):EqR st K .none .none
 | nt {xs:List MV} (k:K false):EqR st K .none (.tup xs)
 | tn {xs:List MV} (k:K false):EqR st K (.tup xs) .none
 | int {x y:Int} (k:K (decide (x=y))):EqR st K (.int x) (.int y)
 | bool {x y:Bool} (k:K (x==y)):EqR st K (.bool x) (.bool y)
 | str {x y:String} (k:K (decide (x=y))):EqR st K (.str x) (.str y)
 | tup {a₁ a₂ a₃ a₄ b₁ b₂ b₃ b₄:Int} (k:K (decide (a₁=b₁/\a₂=b₂/\a₃=b₃/\a₄=b₄))):EqR st K (.tup [.int a₁,.int a₂,.tup [.int a₃,.int a₄]]) (.tup [.int b₁,.int b₂,.tup [.int b₃,.int b₄]])
 | lst {r t:Nat}{xs ys:List Int} (h:st r=some (.list (xs.map .int))) (h':st t=some (.list (ys.map .int))) (k:K (decide (xs=ys))):EqR st K (.ref r) (.ref t)
 | nil {r t:Nat}{xs:List MV} (h:st r=some (.list xs)) (h':st t=some (.list [])) (k:K xs.isEmpty):EqR st K (.ref r) (.ref t)
inductive InR (st:St) (K:Bool->Prop):MV->MV->Prop
 | list {x:Int}{r:Nat}{xs:List Int} (h:st r=some (.list (xs.map .int))) (k:K (decide (x∈xs))):InR st K (.int x) (.ref r)
 | dict {x:Int}{r:Nat}{es} (h:st r=some (.idict es)) (k:K (lkD es x).isSome):InR st K (.int x) (.ref r)
 | tup {x:String}{zs:List String} (k:K (decide (x∈zs))):InR st K (.str x) (.tup (zs.map .str))
 | tdict {x y:Int}{r:Nat}{es} (h:st r=some (.tdict es)) (k:K (lkD es (x,y)).isSome):InR st K (.tup [.int x,.int y]) (.ref r)
inductive CmpR (st:St) (K:Bool->Prop):COp->MV->MV->Prop
 | eq {a b:MV} (k:EqR st K a b):CmpR st K .eq a b
 | ne {x y:Int} (k:K (decide (x≠y))):CmpR st K .ne (.int x) (.int y)
 | neb {x y:Bool} (k:K (x != y)):CmpR st K .ne (.bool x) (.bool y)
 | nee {r t:Nat}{xs:List MV} (h:st r=some (.list xs)) (h':st t=some (.list [])) (k:K (!xs.isEmpty)):CmpR st K .ne (.ref r) (.ref t)
 | lt {x y:Int} (k:K (decide (x<y))):CmpR st K .lt (.int x) (.int y)
 | le {x y:Int} (k:K (decide (x≤y))):CmpR st K .le (.int x) (.int y)
 | gt {x y:Int} (k:K (decide (y<x))):CmpR st K .gt (.int x) (.int y)
 | inn {a b:MV} (k:InR st K a b):CmpR st K .inn a b
 |nin {x:Int}{r:Nat} (k:InR st (fun b=>K (!b)) (.int x) (.ref r)):CmpR st K .nin (.int x) (.ref r)
def yo(op:COp)(a b:MV)(st:St)(K:Bool->Prop):Prop:=CmpR st K op a b
inductive SubR (st:St) (K:MV->Prop):MV->MV->Prop
 | l {r:Nat}{k:Int}{xs:List MV}{v:MV} (h:st r=some (.list xs)) (z:0≤k) (e:xs[k.toNat]? = some v) (q:K v):SubR st K (.ref r) (.int k)
 | d {r:Nat}{k:Int}{es}{v:MV} (h:st r=some (.idict es)) (e:lkD es k=some v) (q:K v):SubR st K (.ref r) (.int k)
 | f {r:Nat}{k:Int}{es}{v:MV} (h:st r=some (.fdict es)) (e:lkD es k=some v) (q:K v):SubR st K (.ref r) (.int k)
 | t {k:Int}{xs:List MV}{v:MV} (z:0≤k) (e:xs[k.toNat]? = some v) (q:K v):SubR st K (.tup xs) (.int k)
def xT(o i:MV)(st:St)(K:MV->Prop):Prop:=SubR st K o i
inductive ItemsR (st:St) (K:List MV->List (Nat×MObj)->Prop):MV->Prop
 | ref {r:Nat}{xs:List MV} (h:st r=some (.list xs)) (k:K xs [(r,.list xs)]):ItemsR st K (.ref r)
 | tup {xs:List MV} (k:K xs []):ItemsR st K (.tup xs)
 | cl {xs:List Int} (k:K (xs.map .int) []):ItemsR st K (.clist xs)
def Yk(v:MV)(st:St)(K:List MV->List (Nat×MObj)->Prop):Prop:=ItemsR st K v
inductive SeqR (st:St) (K:List MV->List (Nat×MObj)->Prop):MV->Prop
 | ref {r:Nat}{xs:List MV} (h:st r=some (.list xs)) (k:K xs [(r,.list xs)]):SeqR st K (.ref r)
 | tup {xs:List MV} (k:K xs []):SeqR st K (.tup xs)
def gC(v:MV)(st:St)(K:List MV->List (Nat×MObj)->Prop):Prop:=SeqR st K v
def ji(src:List (Nat×MObj))(st:St):Prop:=∀ p∈src,st p.1=some p.2
theorem jH{st:St}:ji [] st:=fun _ h=>nomatch h
theorem jh{st:St}{r:Nat}{o:MObj}(h:st r=some o):ji [(r,o)] st:=fun p hp=>by rw [List.mem_singleton.mp hp];exact h
noncomputable def Jl(n:Nat):List MV->List MV
 |[]=>[]
 |x::r=>.tup [.int n,x]::Jl (n+1) r
inductive BcR (st:St) (K:MV->St->Prop):String->List MV->Prop
 | len {r:Nat}{xs:List MV} (h:st r=some (.list xs)) (k:K (.int xs.length) st):BcR st K "len" [.ref r]
 | lend {r:Nat}{es} (h:st r=some (.idict es)) (k:K (.int es.length) st):BcR st K "len" [.ref r]
 | abs {x:Int} (k:K (.int x.natAbs) st):BcR st K "abs" [.int x]
 | sum {r:Nat}{xs:List Int} (h:st r=some (.list (xs.map .int))) (l:xs.length≤100) (b:∀ x∈xs,0≤x/\x<10000) (k:K (.int xs.sum) st):BcR st K "sum" [.ref r]
 | any {r:Nat}{xs:List Bool} (h:st r=some (.list (xs.map .bool))) (k:K (.bool (xs.any id)) st):BcR st K "any" [.ref r]
 | maxl {r:Nat}{xs:List Int} (h:st r=some (.list (xs.map .int))) (n:xs≠[]) (k:∀ m,m∈xs->(∀ y∈xs,y≤m)->K (.int m) st):BcR st K "max" [.ref r]
 | max {x y:Int} (k:K (.int (Max.max x y)) st):BcR st K "max" [.int x,.int y]
 | tuple {r:Nat}{xs:List MV} (h:st r=some (.list xs)) (k:K (.tup xs) st):BcR st K "tuple" [.ref r]
 | dictd {r:Nat}{es} (h:st r=some (.idict es)) (k:jq st (.idict es) K):BcR st K "dict" [.ref r]
 |dictl {r:Nat}{es:List (Int×MV)} (h:st r=some (.list (es.map fun e=>.tup [.int e.1,e.2]))) (k:jq st (.idict (es.foldl (fun d e=>Ju d e.1 e.2) [])) K):BcR st K "dict" [.ref r]
def y4(f:String)(args:List MV)(st:St)(K:MV->St->Prop):Prop:=BcR st K f args
inductive xX (C:jt) (st:St) (K:MV->St->Prop):MV->String->List MV->Prop
 | append {r:Nat}{m:String}{v:MV}{xs:List MV} (e:m = "append") (h:st r=some (.list xs)) (l:xs.length<jb) (k:K .none (st.put r (.list (xs++[v])))):xX C st K (.ref r) m [v]
 | extend {r t:Nat}{m:String}{xs ys:List MV} (e:m = "extend") (h:st r=some (.list xs)) (n:r≠t) (h':st t=some (.list ys)) (l:xs.length+ys.length<jb) (k:K .none (st.put r (.list (xs++ys)))):xX C st K (.ref r) m [.ref t]
 | extendt {r:Nat}{m:String}{xs ys:List MV} (e:m = "extend") (h:st r=some (.list xs)) (l:xs.length+ys.length<jb) (k:K .none (st.put r (.list (xs++ys)))):xX C st K (.ref r) m [.tup ys]
 | pop {r:Nat}{m:String}{v:MV}{ys:List MV} (e:m = "pop") (h:st r=some (.list (ys++[v]))) (k:K v (st.put r (.list ys))):xX C st K (.ref r) m []
 | get {r:Nat}{m:String}{x:Int}{d:MV}{es} (e:m = "get") (h:st r=some (.idict es)) (k:K ((lkD es x).getD d) st):xX C st K (.ref r) m [.int x,d]
 | inst {r d:Nat}{c m:String}{fs}{vs:List MV} (h:st r=some (.inst c d fs)) (e:lkF fs m=Option.none) (k:C (c++"."++m) (.ref r::vs) st K):xX C st K (.ref r) m vs
def yF(C:jt)(o:MV)(m:String)(args:List MV)(st:St)(K:MV->St->Prop):Prop:=xX C st K o m args
noncomputable def instMeths:List String:=["LowUnit.fresh","Apart.put","Apart.are_apart"]
inductive GQ (st:St):MV->String->Prop
 | list {r:Nat}{m:String}{xs:List MV} (h:st r=some (.list xs)) (e:m = "append"\/m = "extend"\/m = "pop"):GQ st (.ref r) m
 | dict {r:Nat}{m:String}{es} (h:st r=some (.idict es)) (e:m = "get"):GQ st (.ref r) m
 | inst {r d:Nat}{c m:String}{fs} (h:st r=some (.inst c d fs)) (e:lkF fs m=Option.none) (i:instMeths.contains (c++"."++m)=true):GQ st (.ref r) m
def Yh(o:MV)(m:String)(st:St):Prop:=GQ st o m
inductive ZK (st st':St):MV->Prop
 | list {r:Nat}{xs ys:List MV} (h:st r=some (.list xs)) (h':st' r=some (.list ys)):ZK st st' (.ref r)
 | dict {r:Nat}{es es'} (h:st r=some (.idict es)) (h':st' r=some (.idict es')):ZK st st' (.ref r)
 | inst {r d d':Nat}{c:String}{fs fs'} (h:st r=some (.inst c d fs)) (h':st' r=some (.inst c d' fs')):ZK st st' (.ref r)
def jF(o:MV)(st st':St):Prop:=ZK st st' o
inductive SetSubR (v:MV) (st:St) (K:St->Prop):MV->MV->Prop
 | l {r:Nat}{k:Int}{xs:List MV} (h:st r=some (.list xs)) (z:0≤k) (l:k.toNat<xs.length) (q:K (st.put r (.list (xs.set k.toNat v)))):SetSubR v st K (.ref r) (.int k)
 | d {r:Nat}{k:Int}{es} (h:st r=some (.idict es)) (l:es.length<jb) (q:K (st.put r (.idict (Ju es k v)))):SetSubR v st K (.ref r) (.int k)
 | t {r:Nat}{x y:Int}{es} (h:st r=some (.tdict es)) (l:es.length<jb) (q:K (st.put r (.tdict (Ju es (x,y) v)))):SetSubR v st K (.ref r) (.tup [.int x,.int y])
def Jb(o i v:MV)(st:St)(K:St->Prop):Prop:=SetSubR v st K o i
inductive SetAttrR (a:String) (v:MV) (st:St) (K:St->Prop):MV->Prop
 | mk {r d:Nat}{c:String}{fs} (h:st r=some (.inst c d fs)) (l:fs.length<100) (k:K (st.put r (.inst c d (Z9 fs a v)))):SetAttrR a v st K (.ref r)
def JI(o:MV)(a:String)(v:MV)(st:St)(K:St->Prop):Prop:=SetAttrR a v st K o
inductive AttrR (a:String) (st:St) (K:MV->Prop):MV->Prop
 | mk {r d:Nat}{c:String}{fs}{v:MV} (h:st r=some (.inst c d fs)) (e:lkF fs a=some v) (k:K v):AttrR a st K (.ref r)
def VB(o:MV)(a:String)(st:St)(K:MV->Prop):Prop:=AttrR a st K o
inductive UnpR (n:Nat) (st:St) (K:List MV->Prop):MV->Prop
 | tup {xs:List MV} (h:xs.length=n) (k:K xs):UnpR n st K (.tup xs)
 | ref {r:Nat}{xs:List MV} (e:st r=some (.list xs)) (h:xs.length=n) (k:K xs):UnpR n st K (.ref r)
def J2(v:MV)(n:Nat)(st:St)(K:List MV->Prop):Prop:=UnpR n st K v
noncomputable def Jw(src:List (Nat×MObj))(step:MV->ja->St->(ja->St->Prop)->Prop):List MV->ja->St->(ja->St->Prop)->Prop
 |[],ρ,st,K=>ji src st/\K ρ st
 |x::xs,ρ,st,K=>ji src st/\step x ρ st fun ρ' st'=>Jw src step xs ρ' st' K
noncomputable def YB(src:List (Nat×MObj))(step:MV->St->(Option MV->St->Prop)->Prop):List MV->List MV->St->(List MV->St->Prop)->Prop
 |[],acc,st,K=>ji src st/\K acc st
 |x::xs,acc,st,K=>ji src st/\step x st fun v st'=>YB src step xs (acc++v.toList) st' K
def ifb(b:Bool)(P Q:Prop):Prop:=b.casesOn Q P
def XB(test:ja->St->(Bool->St->Prop)->Prop)(step:ja->St->(ja->St->Prop)->Prop)(n:Nat):ja->St->(ja->St->Prop)->Prop :=
 Nat.rec (motive:=fun _=>ja->St->(ja->St->Prop)->Prop) (fun _ _ _=>False) (fun _ ih ρ st K=>test ρ st fun b st'=>ifb b (step ρ st' fun ρ' st''=>ih ρ' st'' K) (K ρ st')) n
noncomputable def y5:ja->List String->List MV->ja
 |ρ,x::xs,v::vs=>y5 (yf ρ x v) xs vs
 |ρ,_,_=>ρ
def yv(t:PT)(v:MV)(ρ:ja)(st:St)(K:ja->Prop):Prop :=
 match t with
 |.one x=>K (yf ρ x v)
 |.many xs=>J2 v xs.length st fun vs=>K (y5 ρ xs vs)
def y0(t:PT)(v:MV)(ρ:ja)(st:St)(K:ja->Prop):Prop :=
 match t with
 |.one x=>K ((x,some v)::ρ)
 |.many xs=>J2 v xs.length st fun vs=>K (xs.zip (vs.map some)++ρ)
noncomputable def isNone(v:MV):Bool:=v.casesOn true (fun _=>false) (fun _=>false) (fun _=>false) (fun _=>false) (fun _=>false) (fun _=>false)
noncomputable def V6(v:MV):Bool:=v.casesOn false (fun _=>true) (fun _=>true) (fun _=>true) (fun _=>true) (fun _=>true) (fun _=>true)
noncomputable def opTab:List (String×List String):=[("const",["target","constant"]),("move",["target","source"]),("global",["target","global"]),("setglobal",["global","source"]),("define",["global","source"]),("free",["target","free"]),("closure",["target","procedure","sources"]),("fix",["rows"]),("prim",["target","primitive","sources"]),("jump",["label"]),("branchfalse",["source","label"]),("call",["source","source","sources"]),("give",["source","sources"])]
mutual
noncomputable def wpE(C:jt):ME->ja->St->(MV->St->Prop)->Prop
 |.none,_,st,K=>K .none st
 |.bool b,_,st,K=>K (.bool b) st
 |.int i,_,st,K=>K (.int i) st
 |.str s,_,st,K=>K (.str s) st
 |.var x,ρ,st,K=>∃ v,lk ρ x=some v/\K v st
 |.gstr _ v,_,st,K=>K (.str v) st
 |.optab i,ρ,st,K=>wpE C i ρ st fun v st'=>∃ s t,v=.str s/\opTab.lookup s=some t/\K (.tup (t.map .str)) st'
 |.bin op l r,ρ,st,K=>wpE C l ρ st fun a st₁=>wpE C r ρ st₁ fun b st₂=>YN op a b st₂ K
 |.neg e,ρ,st,K=>wpE C e ρ st fun v st'=>∃ i,v=.int i/\K (.int (-i)) st'
 |.not e,ρ,st,K=>wpE C e ρ st fun v st'=>∃ b,v=.bool b/\K (.bool !b) st'
 |.and l r,ρ,st,K=>wpE C l ρ st fun a st₁=>∃ x,a=.bool x/\ifb x (wpE C r ρ st₁ K) (K (.bool false) st₁)
 |.or l r,ρ,st,K=>wpE C l ρ st fun a st₁=>∃ x,a=.bool x/\ifb x (K (.bool true) st₁) (wpE C r ρ st₁ K)
 |.ite t b o,ρ,st,K=>wpE C t ρ st fun v st₁=>∃ x,v=.bool x/\ifb x (wpE C b ρ st₁ K) (wpE C o ρ st₁ K)
 |.isn e,ρ,st,K=>wpE C e ρ st fun v st'=>K (.bool (isNone v)) st'
 |.isnn e,ρ,st,K=>wpE C e ρ st fun v st'=>K (.bool (V6 v)) st'
 |.cmp op l r,ρ,st,K=>wpE C l ρ st fun a st₁=>wpE C r ρ st₁ fun b st₂=>yo op a b st₂ fun x=>K (.bool x) st₂
 |.cmp2 op₁ op₂ a b c,ρ,st,K=>wpE C a ρ st fun x st₁=>wpE C b ρ st₁ fun y st₂=>yo op₁ x y st₂ fun t=>ifb t (wpE C c ρ st₂ fun z st₃=>yo op₂ y z st₃ fun u=>K (.bool u) st₃) (K (.bool false) st₂)
 |.call f args,ρ,st,K=>J0 C args ρ st fun vs st'=>C f vs st' K
 |.bcall f args,ρ,st,K=>J0 C args ρ st fun vs st'=>y4 f vs st' K
 |.mklist it,ρ,st,K=>wpI C it ρ st fun xs _ st'=>xs.length<jb/\jq st' (.list xs) K
 |.mkdlist e,ρ,st,K=>wpE C e ρ st fun v st'=>∃ r es,v=.ref r/\st' r=some (.idict es)/\jq st' (.list (es.map fun e=>.int e.1)) K
 |.meth o m args,ρ,st,K=>wpE C o ρ st fun ov st₁=>Yh ov m st₁/\J0 C args ρ st₁ fun vs st₂=>jF ov st₁ st₂/\yF C ov m vs st₂ K
 |.attr o a,ρ,st,K=>wpE C o ρ st fun ov st₁=>VB ov a st₁ fun v=>K v st₁
 |.sub o i,ρ,st,K=>wpE C o ρ st fun ov st₁=>wpE C i ρ st₁ fun iv st₂=>xT ov iv st₂ fun v=>K v st₂
 |.sfrom o lo,ρ,st,K=>wpE C o ρ st fun ov st₁=>wpE C lo ρ st₁ fun iv st₂=>∃ k:Int,iv=.int k/\(0≤k/\k<jP) /\
   ((∃ xs,ov=.tup xs/\(1≤k.toNat/\k.toNat≤xs.length)/\K (.tup (xs.drop k.toNat)) st₂)\/(∃ r xs,ov=.ref r/\st₂ r=some (.list xs)/\jq st₂ (.list (xs.drop k.toNat)) K))
 |.sto o hi,ρ,st,K=>wpE C o ρ st fun ov st₁=>wpE C hi ρ st₁ fun iv st₂=>∃ k:Int,iv=.int k/\(0≤k/\k<jP) /\
   ((∃ xs:List Int,ov=.clist xs/\jq st₂ (.list ((xs.map .int).take k.toNat)) K)\/(∃ r xs,ov=.ref r/\st₂ r=some (.list xs)/\jq st₂ (.list (xs.take k.toNat)) K))
 |.srev o,ρ,st,K=>wpE C o ρ st fun ov st₁=>∃ r xs,ov=.ref r/\st₁ r=some (.list xs)/\jq st₁ (.list xs.reverse) K
 |.tup xs,ρ,st,K=>J0 C xs ρ st fun vs st'=>vs.length≤jb/\K (.tup vs) st'
 |.list xs,ρ,st,K=>J0 C xs ρ st fun vs st'=>vs.length≤jb/\jq st' (.list vs) K
 |.idict0,_,st,K=>jq st (.idict []) K
 |.tdict0,_,st,K=>jq st (.tdict []) K
 |.comp elt t it c,ρ,st,K=>wpI C it ρ st fun xs src st₁ =>
   YB src (fun x st₂ K'=>y0 t x ρ st₂ fun ρ'=>match c with
    |some c=>wpE C c ρ' st₂ fun bv st₃=>∃ b,bv=.bool b/\ifb b (wpE C elt ρ' st₃ fun v st₄=>K' (some v) st₄) (K' Option.none st₃)
    |Option.none=>wpE C elt ρ' st₂ fun v st₃=>K' (some v) st₃) xs [] st₁ fun ys st₅=>∀ a,st₅ a=Option.none->ys.length<jb/\K (.ref a) (st₅.put a (.list ys))
noncomputable def J0(C:jt):List ME->ja->St->(List MV->St->Prop)->Prop
 |[],_,st,K=>K [] st
 |e::r,ρ,st,K=>wpE C e ρ st fun v st₁=>J0 C r ρ st₁ fun vs st₂=>K (v::vs) st₂
noncomputable def wpI(C:jt):MI->ja->St->(List MV->List (Nat×MObj)->St->Prop)->Prop
 |.of e,ρ,st,K=>wpE C e ρ st fun v st'=>Yk v st' fun xs src=>K xs src st'
 |.range e,ρ,st,K=>wpE C e ρ st fun v st'=>∃ n:Int,v=.int n/\(0≤n/\n<jb)/\K ((List.range n.toNat).map fun i:Nat=>MV.int i) [] st'
 |.enum e,ρ,st,K=>wpE C e ρ st fun v st'=>∃ r xs,v=.ref r/\st' r=some (.list xs)/\K (Jl 0 xs) [(r,.list xs)] st'
 |.zip a b,ρ,st,K=>wpE C a ρ st fun v st₁=>wpE C b ρ st₁ fun u st₂=>gC v st₂ fun xs s₁=>gC u st₂ fun ys s₂=>K (List.zipWith (fun x y=>MV.tup [x,y]) xs ys) (s₁++s₂) st₂
end
def wpT(C:jt)(e:ME)(ρ:ja)(st:St)(K:Bool->St->Prop):Prop:=wpE C e ρ st fun v st'=>∃ b,v=.bool b/\K b st'
mutual
noncomputable def Yr(C:jt):MT->MV->ja->St->(ja->St->Prop)->Prop
 |.var x,v,ρ,st,K=>K (yf ρ x v) st
 |.attr o a,v,ρ,st,K=>wpE C o ρ st fun ov st'=>JI ov a v st' fun st''=>K ρ st''
 |.sub o i,v,ρ,st,K=>wpE C o ρ st fun ov st₁=>wpE C i ρ st₁ fun iv st₂=>Jb ov iv v st₂ fun st₃=>K ρ st₃
 |.tup ts,v,ρ,st,K=>J2 v ts.length st fun vs=>Y2 C ts vs ρ st K
noncomputable def Y2(C:jt):List MT->List MV->ja->St->(ja->St->Prop)->Prop
 |t::ts,v::vs,ρ,st,K=>Yr C t v ρ st fun ρ' st'=>Y2 C ts vs ρ' st' K
 |_,_,ρ,st,K=>K ρ st
end
mutual
noncomputable def wpS(C:jt):MS->ja->St->(ja->St->Prop)->(MV->St->Prop)->Prop
 |.assign t e,ρ,st,Kn,_=>wpE C e ρ st fun v st'=>Yr C t v ρ st' Kn
 |.expr e,ρ,st,Kn,_=>wpE C e ρ st fun v st'=>v=.none/\Kn ρ st'
 |.ret e,ρ,st,_,Kr=>wpE C e ρ st Kr
 |.ife c t o,ρ,st,Kn,Kr=>wpT C c ρ st fun b st'=>ifb b (jG C t ρ st' Kn Kr) (jG C o ρ st' Kn Kr)
 |.whil c b,ρ,st,Kn,Kr=>∃ n,XB (fun ρ st K=>wpT C c ρ st K) (fun ρ st K=>jG C b ρ st K Kr) n ρ st Kn
 |.fore t it b,ρ,st,Kn,Kr=>wpI C it ρ st fun xs src st₁ =>
   Jw src (fun x ρ st K=>yv t x ρ st fun ρ'=>jG C b ρ' st K Kr) xs ρ st₁ Kn
 |.ford x e b,ρ,st,Kn,_=>wpE C e ρ st fun v st₁=>∃ r es,v=.ref r/\st₁ r=some (.idict es) /\
   Jw [(r,.fdict es)] (fun y ρ st K=>jG C b (yf ρ x y) st K (fun _ _=>False)) (es.map fun e=>.int e.1) ρ (st₁.put r (.fdict es)) fun ρ' st'=>Kn ρ' (st'.put r (.idict es))
noncomputable def jG(C:jt):List MS->ja->St->(ja->St->Prop)->(MV->St->Prop)->Prop
 |[],ρ,st,Kn,_=>Kn ρ st
 |s::r,ρ,st,Kn,Kr=>wpS C s ρ st (fun ρ' st'=>jG C r ρ' st' Kn Kr) Kr
end
structure Fn where
 params:List String
 locals:List String
 body:List MS
noncomputable def xI(f:Fn)(args:List MV):ja:=f.params.zip (args.map some)++f.locals.map fun x=>(x,Option.none)
noncomputable def qj(table:List (String×Fn))(classes:List String)(n:Nat):jt :=
 Nat.rec (motive:=fun _=>jt) (fun _ _ _ _=>False) (fun _ ih f args st K=>ifb (classes.contains f)
  (∀ a d,st a=Option.none->st d=Option.none->a≠d->ih (f++".__init__") (.ref a::args) ((st.put d (.own a)).put a (.inst f d [])) fun v st'=>v=.none/\K (.ref a) st')
  (∃ fn,table.lookup f=some fn/\fn.params.length=args.length/\jG ih fn.body (xI fn args) st (fun _ st'=>K .none st') K)) n
theorem QF{table:List (String×Fn)}{classes:List String}{n:Nat}{f args st K}(hc:classes.contains f=true):qj table classes (n+1) f args st K = ∀ a d,st a=Option.none->st d=Option.none->a≠d->qj table classes n (f++".__init__") (.ref a::args) ((st.put d (.own a)).put a (.inst f d [])) fun v st'=>v=.none/\K (.ref a) st' :=
 congrArg (fun b=>ifb b _ _) hc
theorem QP{table:List (String×Fn)}{classes:List String}{n:Nat}{f args st K}(hc:classes.contains f=false):qj table classes (n+1) f args st K = ∃ fn,table.lookup f=some fn/\fn.params.length=args.length/\jG (qj table classes n) fn.body (xI fn args) st (fun _ st'=>K .none st') K :=
 congrArg (fun b=>ifb b _ _) hc
open PySem.W PyProof.Rows PySem.SeqAt
noncomputable abbrev Kd:=Str->Option NameKind
noncomputable def gR(e:Expr):Bool:=!(e.ctorIdx==16)
noncomputable def qL(e:Expr):Bool:=e.ctorIdx==7
noncomputable def pyC:COp->CmpOp
 |.eq=>.Eq | .ne=>.NotEq | .lt=>.Lt | .le=>.LtE | .gt=>.Gt | .inn=>.In | .nin=>.NotIn
noncomputable def xu(e:Expr):Bool:=!(e.ctorIdx==26)
noncomputable def pyB:BOp->Operator
 |.add=>.Add | .sub=>.Sub | .mul=>.Mult | .fdiv=>.FloorDiv | .mod=>.Mod | .shl=>.LShift | .shr=>.RShift | .band=>.BitAnd | .bor=>.BitOr | .bxor=>.BitXor
noncomputable def qy(k:Option NameKind):Bool:=k==some .local||(k==some .cell||k==some .free)
noncomputable def jD(kd:Kd)(sc:Scope):Kd:=fun n=>match sc.names.lookup n with
 |some .free=>if kd n=some .cell then some .cell else some .free
 |k=>k
noncomputable def XZ(kd:Kd)(sc:Scope):Bool:=sc.kind==.function&&sc.names.all fun x=>x.2 != .cell&&(x.2 != .local||sc.names.lookup x.1==some .local)&&(x.2 != .free||(kd x.1==some .cell||kd x.1==some .free))
noncomputable def attrNames:List String:=["number","params","ops","end","title","is_continuation","entry","needed","has_rest","free","count","blocks","masks","of"]
noncomputable def gstrs:List (String×String):=[("GOTO","goto"),("BRANCH","branch"),("CALL","call"),("GIVE","give")]
noncomputable def gnames:List String:=["operand_pairs","registers_read","registers_written","end_reads","end_blocks","mask_of","bits_of","is_in","without","live_at_end","live_ahead","live_behind","live_at_begin","begins_of","blocks_ahead","put_op","apart_of","given_order","wishes_of","taken_places","lowest_free","chosen_place","places_of","plain_places","clash_in","op_clash","is_clobbered","wrong_pair","lives_apart","_law_draw","_law_one","_law_op","_law_block","_law_some","_law_meeting","_law_loop","_law_unit","_law_gives","_law_reads","_law_end_reads","_law_lives","_law_times","_law_pairs","_law_wrong","_law_order","_law_is_told_right","_law_are_places_right","law","LowBlock","LowUnit","Apart","Places"]
noncomputable def mnames:List String:=["append","extend","pop","get","fresh","put","are_apart"]
noncomputable def bnames:List String:=["len","abs","sum","any","max","tuple","dict"]
noncomputable def yY:PT->List String
 |.one x=>[x]
 |.many xs=>xs
noncomputable def Yn(sc:Scope)(t:PT):Bool:=decide (yY t).Nodup&&sc.names.all fun x=>x.2 != .local||x.1==Str.ofString ".0"||(yY t).any fun y=>x.1==Str.ofString y
noncomputable def qb:PT->MI->Bool
 |.one _,.enum _=>false
 |.one _,.zip ..=>false
 |_,_=>true
noncomputable def vw(n i:Nat)(el:i=n->Bool):Bool:=if h:i=n then el h else false
theorem yb{n i:Nat}{el:i=n->Bool}(h:vw n i el=true):∃ q,el q=true:=by
 unfold vw at h
 by_cases q:i=n
 ·rw [dif_pos q] at h;exact ⟨q,h⟩
 ·rw [dif_neg q] at h;cases h
noncomputable def O8(e:Expr)(g:PySem.BoolOp->(List Expr)->Pos->Bool):Bool:=vw 0 e.ctorIdx fun h=>Expr.BoolOp.elim (motive_1:=fun _=>Bool) e h g
theorem Vz{G:Expr->Prop}{g:PySem.BoolOp->(List Expr)->Pos->Bool}{e:Expr}(h:O8 e g=true)(k:∀ a b c,g a b c=true->G (.BoolOp a b c)):G e :=
 (yb h).elim fun q z=>Expr.BoolOp.elim (motive_1:=fun e=>∀ q:e.ctorIdx=0,Expr.BoolOp.elim (motive_1:=fun _=>Bool) e q g=true->G e) e q (fun a b c _ z=>k a b c z) q z
noncomputable def jgt(e:Expr)(g:Expr->Operator->Expr->Pos->Bool):Bool:=vw 2 e.ctorIdx fun h=>Expr.BinOp.elim (motive_1:=fun _=>Bool) e h g
theorem jeF{G:Expr->Prop}{g:Expr->Operator->Expr->Pos->Bool}{e:Expr}(h:jgt e g=true)(k:∀ a b c d,g a b c d=true->G (.BinOp a b c d)):G e :=
 (yb h).elim fun q z=>Expr.BinOp.elim (motive_1:=fun e=>∀ q:e.ctorIdx=2,Expr.BinOp.elim (motive_1:=fun _=>Bool) e q g=true->G e) e q (fun a b c d _ z=>k a b c d z) q z
noncomputable def cUn(e:Expr)(g:UnaryOp->Expr->Pos->Bool):Bool:=vw 3 e.ctorIdx fun h=>Expr.UnaryOp.elim (motive_1:=fun _=>Bool) e h g
theorem iUn{G:Expr->Prop}{g:UnaryOp->Expr->Pos->Bool}{e:Expr}(h:cUn e g=true)(k:∀ a b c,g a b c=true->G (.UnaryOp a b c)):G e :=
 (yb h).elim fun q z=>Expr.UnaryOp.elim (motive_1:=fun e=>∀ q:e.ctorIdx=3,Expr.UnaryOp.elim (motive_1:=fun _=>Bool) e q g=true->G e) e q (fun a b c _ z=>k a b c z) q z
noncomputable def cIf(e:Expr)(g:Expr->Expr->Expr->Pos->Bool):Bool:=vw 5 e.ctorIdx fun h=>Expr.IfExp.elim (motive_1:=fun _=>Bool) e h g
theorem iIf{G:Expr->Prop}{g:Expr->Expr->Expr->Pos->Bool}{e:Expr}(h:cIf e g=true)(k:∀ a b c d,g a b c d=true->G (.IfExp a b c d)):G e :=
 (yb h).elim fun q z=>Expr.IfExp.elim (motive_1:=fun e=>∀ q:e.ctorIdx=5,Expr.IfExp.elim (motive_1:=fun _=>Bool) e q g=true->G e) e q (fun a b c d _ z=>k a b c d z) q z
noncomputable def uq(e:Expr)(g:(List (Option Expr))->(List Expr)->Pos->Bool):Bool:=vw 6 e.ctorIdx fun h=>Expr.Dict.elim (motive_1:=fun _=>Bool) e h g
theorem GU{G:Expr->Prop}{g:(List (Option Expr))->(List Expr)->Pos->Bool}{e:Expr}(h:uq e g=true)(k:∀ a b c,g a b c=true->G (.Dict a b c)):G e :=
 (yb h).elim fun q z=>Expr.Dict.elim (motive_1:=fun e=>∀ q:e.ctorIdx=6,Expr.Dict.elim (motive_1:=fun _=>Bool) e q g=true->G e) e q (fun a b c _ z=>k a b c z) q z
noncomputable def Zu(e:Expr)(g:Expr->(List Comprehension)->Scope->Pos->Bool):Bool:=vw 8 e.ctorIdx fun h=>Expr.ListComp.elim (motive_1:=fun _=>Bool) e h g
theorem jaT{G:Expr->Prop}{g:Expr->(List Comprehension)->Scope->Pos->Bool}{e:Expr}(h:Zu e g=true)(k:∀ a b c d,g a b c d=true->G (.ListComp a b c d)):G e :=
 (yb h).elim fun q z=>Expr.ListComp.elim (motive_1:=fun e=>∀ q:e.ctorIdx=8,Expr.ListComp.elim (motive_1:=fun _=>Bool) e q g=true->G e) e q (fun a b c d _ z=>k a b c d z) q z
noncomputable def U6(e:Expr)(g:Expr->(List CmpOp)->(List Expr)->Pos->Bool):Bool:=vw 15 e.ctorIdx fun h=>Expr.Compare.elim (motive_1:=fun _=>Bool) e h g
theorem U4{G:Expr->Prop}{g:Expr->(List CmpOp)->(List Expr)->Pos->Bool}{e:Expr}(h:U6 e g=true)(k:∀ a b c d,g a b c d=true->G (.Compare a b c d)):G e :=
 (yb h).elim fun q z=>Expr.Compare.elim (motive_1:=fun e=>∀ q:e.ctorIdx=15,Expr.Compare.elim (motive_1:=fun _=>Bool) e q g=true->G e) e q (fun a b c d _ z=>k a b c d z) q z
noncomputable def Ov(e:Expr)(g:Expr->(List Expr)->(List Keyword)->Pos->Bool):Bool:=vw 16 e.ctorIdx fun h=>Expr.Call.elim (motive_1:=fun _=>Bool) e h g
theorem Q6{G:Expr->Prop}{g:Expr->(List Expr)->(List Keyword)->Pos->Bool}{e:Expr}(h:Ov e g=true)(k:∀ a b c d,g a b c d=true->G (.Call a b c d)):G e :=
 (yb h).elim fun q z=>Expr.Call.elim (motive_1:=fun e=>∀ q:e.ctorIdx=16,Expr.Call.elim (motive_1:=fun _=>Bool) e q g=true->G e) e q (fun a b c d _ z=>k a b c d z) q z
noncomputable def YG(e:Expr)(g:Const->Nat->Pos->Bool):Bool:=vw 19 e.ctorIdx fun h=>Expr.Constant.elim (motive_1:=fun _=>Bool) e h g
theorem JM{G:Expr->Prop}{g:Const->Nat->Pos->Bool}{e:Expr}(h:YG e g=true)(k:∀ a b c,g a b c=true->G (.Constant a b c)):G e :=
 (yb h).elim fun q z=>Expr.Constant.elim (motive_1:=fun e=>∀ q:e.ctorIdx=19,Expr.Constant.elim (motive_1:=fun _=>Bool) e q g=true->G e) e q (fun a b c _ z=>k a b c z) q z
noncomputable def uI(e:Expr)(g:Expr->Str->Pos->Bool):Bool:=vw 20 e.ctorIdx fun h=>Expr.Attribute.elim (motive_1:=fun _=>Bool) e h g
theorem vf{G:Expr->Prop}{g:Expr->Str->Pos->Bool}{e:Expr}(h:uI e g=true)(k:∀ a b c,g a b c=true->G (.Attribute a b c)):G e :=
 (yb h).elim fun q z=>Expr.Attribute.elim (motive_1:=fun e=>∀ q:e.ctorIdx=20,Expr.Attribute.elim (motive_1:=fun _=>Bool) e q g=true->G e) e q (fun a b c _ z=>k a b c z) q z
noncomputable def Gb(e:Expr)(g:Expr->Expr->Pos->Bool):Bool:=vw 21 e.ctorIdx fun h=>Expr.Subscript.elim (motive_1:=fun _=>Bool) e h g
theorem zx{G:Expr->Prop}{g:Expr->Expr->Pos->Bool}{e:Expr}(h:Gb e g=true)(k:∀ a b c,g a b c=true->G (.Subscript a b c)):G e :=
 (yb h).elim fun q z=>Expr.Subscript.elim (motive_1:=fun e=>∀ q:e.ctorIdx=21,Expr.Subscript.elim (motive_1:=fun _=>Bool) e q g=true->G e) e q (fun a b c _ z=>k a b c z) q z
noncomputable def q7(e:Expr)(g:Str->Pos->Bool):Bool:=vw 23 e.ctorIdx fun h=>Expr.Name.elim (motive_1:=fun _=>Bool) e h g
theorem Yt{G:Expr->Prop}{g:Str->Pos->Bool}{e:Expr}(h:q7 e g=true)(k:∀ a b,g a b=true->G (.Name a b)):G e :=
 (yb h).elim fun q z=>Expr.Name.elim (motive_1:=fun e=>∀ q:e.ctorIdx=23,Expr.Name.elim (motive_1:=fun _=>Bool) e q g=true->G e) e q (fun a b _ z=>k a b z) q z
noncomputable def jdt(e:Expr)(g:(List Expr)->Pos->Bool):Bool:=vw 24 e.ctorIdx fun h=>Expr.List.elim (motive_1:=fun _=>Bool) e h g
theorem Oe{G:Expr->Prop}{g:(List Expr)->Pos->Bool}{e:Expr}(h:jdt e g=true)(k:∀ a b,g a b=true->G (.List a b)):G e :=
 (yb h).elim fun q z=>Expr.List.elim (motive_1:=fun e=>∀ q:e.ctorIdx=24,Expr.List.elim (motive_1:=fun _=>Bool) e q g=true->G e) e q (fun a b _ z=>k a b z) q z
noncomputable def qI(e:Expr)(g:(List Expr)->Nat->Pos->Bool):Bool:=vw 25 e.ctorIdx fun h=>Expr.Tuple.elim (motive_1:=fun _=>Bool) e h g
theorem YY{G:Expr->Prop}{g:(List Expr)->Nat->Pos->Bool}{e:Expr}(h:qI e g=true)(k:∀ a b c,g a b c=true->G (.Tuple a b c)):G e :=
 (yb h).elim fun q z=>Expr.Tuple.elim (motive_1:=fun e=>∀ q:e.ctorIdx=25,Expr.Tuple.elim (motive_1:=fun _=>Bool) e q g=true->G e) e q (fun a b c _ z=>k a b c z) q z
noncomputable def Qe(e:Expr)(g:(Option Expr)->(Option Expr)->(Option Expr)->Pos->Bool):Bool:=vw 26 e.ctorIdx fun h=>Expr.Slice.elim (motive_1:=fun _=>Bool) e h g
theorem Gz{G:Expr->Prop}{g:(Option Expr)->(Option Expr)->(Option Expr)->Pos->Bool}{e:Expr}(h:Qe e g=true)(k:∀ a b c d,g a b c d=true->G (.Slice a b c d)):G e :=
 (yb h).elim fun q z=>Expr.Slice.elim (motive_1:=fun e=>∀ q:e.ctorIdx=26,Expr.Slice.elim (motive_1:=fun _=>Bool) e q g=true->G e) e q (fun a b c d _ z=>k a b c d z) q z
noncomputable def jfC(e:Stmt)(g:(Option Expr)->Pos->Bool):Bool:=vw 3 e.ctorIdx fun h=>Stmt.Return.elim (motive_2:=fun _=>Bool) e h g
theorem jhc{G:Stmt->Prop}{g:(Option Expr)->Pos->Bool}{e:Stmt}(h:jfC e g=true)(k:∀ a b,g a b=true->G (.Return a b)):G e :=
 (yb h).elim fun q z=>Stmt.Return.elim (motive_2:=fun e=>∀ q:e.ctorIdx=3,Stmt.Return.elim (motive_2:=fun _=>Bool) e q g=true->G e) e q (fun a b _ z=>k a b z) q z
noncomputable def jgK(e:Stmt)(g:(List Expr)->Expr->Pos->Bool):Bool:=vw 5 e.ctorIdx fun h=>Stmt.Assign.elim (motive_2:=fun _=>Bool) e h g
theorem jho{G:Stmt->Prop}{g:(List Expr)->Expr->Pos->Bool}{e:Stmt}(h:jgK e g=true)(k:∀ a b c,g a b c=true->G (.Assign a b c)):G e :=
 (yb h).elim fun q z=>Stmt.Assign.elim (motive_2:=fun e=>∀ q:e.ctorIdx=5,Stmt.Assign.elim (motive_2:=fun _=>Bool) e q g=true->G e) e q (fun a b c _ z=>k a b c z) q z
noncomputable def jeS(e:Stmt)(g:Expr->Expr->(List Stmt)->(List Stmt)->Pos->Bool):Bool:=vw 9 e.ctorIdx fun h=>Stmt.For.elim (motive_2:=fun _=>Bool) e h g
theorem jgq{G:Stmt->Prop}{g:Expr->Expr->(List Stmt)->(List Stmt)->Pos->Bool}{e:Stmt}(h:jeS e g=true)(k:∀ a b c d f,g a b c d f=true->G (.For a b c d f)):G e :=
 (yb h).elim fun q z=>Stmt.For.elim (motive_2:=fun e=>∀ q:e.ctorIdx=9,Stmt.For.elim (motive_2:=fun _=>Bool) e q g=true->G e) e q (fun a b c d f _ z=>k a b c d f z) q z
noncomputable def O3(e:Stmt)(g:Expr->(List Stmt)->(List Stmt)->Pos->Bool):Bool:=vw 11 e.ctorIdx fun h=>Stmt.While.elim (motive_2:=fun _=>Bool) e h g
theorem jdK{G:Stmt->Prop}{g:Expr->(List Stmt)->(List Stmt)->Pos->Bool}{e:Stmt}(h:O3 e g=true)(k:∀ a b c d,g a b c d=true->G (.While a b c d)):G e :=
 (yb h).elim fun q z=>Stmt.While.elim (motive_2:=fun e=>∀ q:e.ctorIdx=11,Stmt.While.elim (motive_2:=fun _=>Bool) e q g=true->G e) e q (fun a b c d _ z=>k a b c d z) q z
noncomputable def jgb(e:Stmt)(g:Expr->(List Stmt)->(List Stmt)->Pos->Bool):Bool:=vw 12 e.ctorIdx fun h=>Stmt.If.elim (motive_2:=fun _=>Bool) e h g
theorem jhK{G:Stmt->Prop}{g:Expr->(List Stmt)->(List Stmt)->Pos->Bool}{e:Stmt}(h:jgb e g=true)(k:∀ a b c d,g a b c d=true->G (.If a b c d)):G e :=
 (yb h).elim fun q z=>Stmt.If.elim (motive_2:=fun e=>∀ q:e.ctorIdx=12,Stmt.If.elim (motive_2:=fun _=>Bool) e q g=true->G e) e q (fun a b c d _ z=>k a b c d z) q z
noncomputable def jfY(e:Stmt)(g:Expr->Pos->Bool):Bool:=vw 24 e.ctorIdx fun h=>Stmt.Expr.elim (motive_2:=fun _=>Bool) e h g
theorem jgZ{G:Stmt->Prop}{g:Expr->Pos->Bool}{e:Stmt}(h:jfY e g=true)(k:∀ a b,g a b=true->G (.Expr a b)):G e :=
 (yb h).elim fun q z=>Stmt.Expr.elim (motive_2:=fun e=>∀ q:e.ctorIdx=24,Stmt.Expr.elim (motive_2:=fun _=>Bool) e q g=true->G e) e q (fun a b _ z=>k a b z) q z
theorem Jy{a b:Bool}(h:(a&&b)=true):a=true/\b=true:=by rwa [Bool.and_eq_true] at h
section
variable {G:Prop}
theorem aE2{a b:Bool}(h:(a&&b)=true)(k:a=true->b=true->G):G:=k (Jy h).1 (Jy h).2
theorem aE3{a0 a1 a2:Bool}(h:(a0&&(a1&&a2))=true)(k:a0=true->a1=true->a2=true->G):G:=aE2 h fun x y=>aE2 y (k x)
theorem aE4{a0 a1 a2 a3:Bool}(h:(a0&&(a1&&(a2&&a3)))=true)(k:a0=true->a1=true->a2=true->a3=true->G):G:=aE2 h fun x y=>aE3 y (k x)
theorem aE5{a0 a1 a2 a3 a4:Bool}(h:(a0&&(a1&&(a2&&(a3&&a4))))=true)(k:a0=true->a1=true->a2=true->a3=true->a4=true->G):G:=aE2 h fun x y=>aE4 y (k x)
theorem aE6{a0 a1 a2 a3 a4 a5:Bool}(h:(a0&&(a1&&(a2&&(a3&&(a4&&a5)))))=true)(k:a0=true->a1=true->a2=true->a3=true->a4=true->a5=true->G):G:=aE2 h fun x y=>aE5 y (k x)
theorem aE7{a0 a1 a2 a3 a4 a5 a6:Bool}(h:(a0&&(a1&&(a2&&(a3&&(a4&&(a5&&a6))))))=true)(k:a0=true->a1=true->a2=true->a3=true->a4=true->a5=true->a6=true->G):G:=aE2 h fun x y=>aE6 y (k x)
end
theorem Zn{a:Bool}(h:(!a)=true):a=false:=by rwa [Bool.not_eq_true'] at h
theorem jaP{α:Type}{x:Option α}(h:x.isNone=true):x=none:=Option.isNone_iff_eq_none.mp h
noncomputable def one(f:Expr->Bool):List Expr->Bool
 |[a]=>f a
 |_=>false
noncomputable def two(f:Expr->Expr->Bool):List Expr->Bool
 |[a,b]=>f a b
 |_=>false
theorem ZT{f:Expr->Bool}{G:List Expr->Prop}:∀ {l:List Expr},one f l=true->(∀ a,f a=true->G [a])->G l
 |[_],h,k=>k _ h
 |[],h,_=>nomatch h
 |_::_::_,h,_=>nomatch h
theorem jeo{f:Expr->Expr->Bool}{G:List Expr->Prop}:∀ {l:List Expr},two f l=true->(∀ a b,f a b=true->G [a,b])->G l
 |[_,_],h,k=>k _ _ h
 |[],h,_=>nomatch h
 |[_],h,_=>nomatch h
 |_::_::_::_,h,_=>nomatch h
theorem UC{α:Type}{G:Option α->Prop}{x:Option α}(h:x.isNone=true)(k:G none):G x:=by rw [jaP h];exact k
theorem jbR{α:Type}{G:Option α->Prop}{p:α->Bool}:∀ {x:Option α},x.any p=true->(∀ a,p a=true->G (some a))->G x
 |some _,h,k=>k _ h
 |none,h,_=>nomatch h
theorem JA{α:Type}[BEq α][LawfulBEq α]{G:α->Prop}{a b:α}(h:(a==b)=true)(k:G b):G a:=by rw [beq_iff_eq.mp h];exact k
theorem gQ{α:Type}{G:List α->Prop}{l:List α}(h:l.isEmpty=true)(k:G []):G l:=by rw [List.isEmpty_iff.mp h];exact k
noncomputable def jaX(f g:Expr->Bool)(op:PySem.BoolOp)(p:Pos):List Expr->Bool
 |[a,b]=>f a&&g b
 |a::b::c::r=>f a&&g (.BoolOp op (b::c::r) p)
 |_=>false
theorem uT{f g:Expr->Bool}{op:PySem.BoolOp}{p:Pos}{G:List Expr->Prop}:∀ {l:List Expr},jaX f g op p l=true->(∀ a b,f a=true/\g b=true->G [a,b])->(∀ a b c r,f a=true/\g (.BoolOp op (b::c::r) p)=true->G (a::b::c::r))->G l
 |[_,_],h,k,_=>k _ _ (Jy h)
 |_::_::_::_,h,_,k=>k _ _ _ _ (Jy h)
 |[],h,_,_=>nomatch h
 |[_],h,_,_=>nomatch h
noncomputable def glob(kd:Kd)(id:Str)(f:String):Bool:=id==Str.ofString f&&(kd id==some .globalImplicit&&!(id==("__debug__" : Str)))
theorem Xh{kd:Kd}{id:Str}{f:String}(h:glob kd id f=true):id=Str.ofString f/\(kd id==some .globalImplicit)=true/\(id==("__debug__" : Str))=false:=by
 unfold glob at h
 simp only [Bool.and_eq_true,beq_iff_eq,Bool.not_eq_true'] at h
 exact ⟨h.1,beq_iff_eq.mpr h.2.1,h.2.2⟩
noncomputable def q0(kd:Kd)(f:String)(e:Expr)(k:List Expr->Bool):Bool:=Ov e fun o as ks _=>ks.isEmpty&&(q7 o (fun n _=>glob kd n f)&&k as)
theorem Js{G:Expr->Prop}{kd:Kd}{f:String}{e:Expr}{k:List Expr->Bool}(h:q0 kd f e k=true)(z:∀ q as p,kd (Str.ofString f)=some .globalImplicit->(Str.ofString f==("__debug__" : Str))=false->k as=true->G (.Call (.Name (Str.ofString f) q) as [] p)):G e:=by
 apply Q6 h;intro a b c d h0
 refine aE3 h0 fun h1 h2 h3=>?_
 clear h h0
 obtain rfl:=List.isEmpty_iff.mp h1
 apply Yt h2;intro id q h4
 obtain ⟨rfl,h5,h6⟩:=Xh h4
 exact z _ _ _ (beq_iff_eq.mp h5) h6 h3
noncomputable def jhC(e:Expr):Bool:=cUn e fun o x _=>o==.USub&&YG x fun c _ _=>c==.int 1
noncomputable def jdX(f:Comprehension->Bool):List Comprehension->Bool
 |[g]=>g.is_async==0&&f g
 |_=>false
theorem jfS{f:Comprehension->Bool}{G:List Comprehension->Prop}:∀ {l:List Comprehension},jdX f l=true->(∀ a b c,f ⟨a,b,c,0⟩=true->G [⟨a,b,c,0⟩])->G l
 |[⟨_,_,_,n⟩],h,k=>by
  obtain ⟨h1,h⟩:=Jy h
  obtain rfl:n=0:=beq_iff_eq.mp h1
  exact k _ _ _ h
 |[],h,_=>nomatch h
 |_::_::_,h,_=>nomatch h
noncomputable def GE(q:Str->Bool)(x:String)(e:Expr):Bool:=q7 e fun id _=>id==Str.ofString x&&q (Str.ofString x)
noncomputable def uE(q:Str->Bool)(xs:List String):List Expr->Bool:=xs.rec (motive:=fun _=>List Expr->Bool) (fun es=>es.isEmpty) fun x _ ih es=>es.casesOn false fun e es=>GE q x e&&ih es
noncomputable def XS(q:Str->Bool)(t:PT)(e:Expr):Bool:=t.casesOn (fun x=>GE q x e) fun xs=>qI e fun es _ _=>uE q xs es
noncomputable def JP(kd:Kd):PT->Expr->Bool:=XS fun n=>kd n==some .local
noncomputable def OD:MI->Bool
 |.enum _=>false
 |_=>true
mutual
noncomputable def jB(kd:Kd):ME->Expr->Bool
 |.none,e=>YG e fun x _ _=>x==.none
 |.bool b,e=>YG e fun x _ _=>x==.bool b
 |.int i,e=>YG e fun x _ _=>x==.int i
 |.str s,e=>YG e fun x _ _=>x==.str (Str.ofString s)
 |.var x,e=>q7 e fun n _=>n==Str.ofString x&&(x != ".0"&&(qy (kd n)&&(!(n==("__debug__" : Str))&&!(n==("__classdict__" : Str)))))
 |.gstr x v,e=>q7 e fun n _=>glob kd n x&&gstrs.lookup x==some v
 |.optab i,e=>Gb e fun t x _=>q7 t (fun n _=>glob kd n "OPERANDS")&&(xu x&&jB kd i x)
 |.bin op l r,e=>jgt e fun x o y _=>o==pyB op&&(jB kd l x&&jB kd r y)
 |.neg m,e=>cUn e fun o x _=>o==.USub&&jB kd m x
 |.not m,e=>cUn e fun o x _=>o==.Not&&jB kd m x
 |.and l r,e=>O8 e fun o vs p=>o==.And&&jaX (jB kd l) (jB kd r) .And p vs
 |.or l r,e=>O8 e fun o vs p=>o==.Or&&jaX (jB kd l) (jB kd r) .Or p vs
 |.ite t b o,e=>cIf e fun x y z _=>jB kd t x&&(jB kd b y&&jB kd o z)
 |.isn m,e=>U6 e fun x o ys _=>o==[.Is]&&(one (fun r=>YG r fun c _ _=>c==.none) ys&&jB kd m x)
 |.isnn m,e=>U6 e fun x o ys _=>o==[.IsNot]&&(one (fun r=>YG r fun c _ _=>c==.none) ys&&jB kd m x)
 |.cmp op l r,e=>U6 e fun x o ys _=>o==[pyC op]&&(jB kd l x&&one (fun y=>jB kd r y&&!qL y) ys)
 |.cmp2 o₁ o₂ a b c,e=>U6 e fun x o ys _=>o==[pyC o₁,pyC o₂]&&(jB kd a x&&two (fun y z=>jB kd b y&&(jB kd c z&&(!qL y&&!qL z))) ys)
 |.call f args,e=>q0 kd f e fun as=>gnames.contains f&&(Jx kd args as&&decide (as.length≤14))
 |.bcall f args,e=>q0 kd f e fun as=>bnames.contains f&&Jx kd args as
 |.mklist it,e=>q0 kd "list" e (one fun a=>vj kd it a&&OD it)
 |.mkdlist m,e=>q0 kd "list" e (one (jB kd m))
 |.meth o m args,e=>Ov e fun t as ks p=>ks.isEmpty&&uI t fun x n q=>n==Str.ofString m&&(mnames.contains m&&(jB kd o x&&(Jx kd args as&&(gR x&&(q.endLine==p.line&&decide (as.length≤14))))))
 |.attr o a,e=>uI e fun x n _=>n==Str.ofString a&&(attrNames.contains a&&(jB kd o x&&gR x))
 |.sub o i,e=>Gb e fun x y _=>jB kd o x&&(jB kd i y&&xu y)
 |.sfrom o lo,e=>Gb e fun x y _=>Qe y fun l h t _=>h.isNone&&(t.isNone&&(jB kd o x&&l.any (jB kd lo)))
 |.sto o hi,e=>Gb e fun x y _=>Qe y fun l h t _=>l.isNone&&(t.isNone&&(jB kd o x&&h.any (jB kd hi)))
 |.srev o,e=>Gb e fun x y _=>Qe y fun l h t _=>l.isNone&&(h.isNone&&(t.any jhC&&jB kd o x))
 |.tup xs,e=>qI e fun x _ _=>Jx kd xs x
 |.list xs,e=>jdt e fun x _=>Jx kd xs x
 |.idict0,e=>uq e fun x y _=>x.isEmpty&&y.isEmpty
 |.tdict0,e=>uq e fun x y _=>x.isEmpty&&y.isEmpty
 |.comp elt t it c,e=>Zu e fun x gs sc _=>jdX (fun g=>XZ kd sc&&(Yn sc t&&(qb t it&&(JP (jD kd sc) t g.target&&(vj kd it g.iter&&(jB (jD kd sc) elt x&&(match c with
   |Option.none=>g.ifs.isEmpty
   |some c=>one (jB (jD kd sc) c) g.ifs))))))) gs
noncomputable def Jx(kd:Kd):List ME->List Expr->Bool
 |[],es=>es.isEmpty
 |x::xs,es=>match es with | e::r=>jB kd x e&&Jx kd xs r | _=>false
noncomputable def vj(kd:Kd):MI->Expr->Bool
 |.of x,e=>jB kd x e&&!qL e
 |.range x,e=>q0 kd "range" e (one (jB kd x))
 |.enum x,e=>q0 kd "enumerate" e (one (jB kd x))
 |.zip x y,e=>q0 kd "zip" e (two fun a b=>jB kd x a&&jB kd y b)
end
mutual
noncomputable def XQ(kd:Kd):MT->Expr->Bool
 |.var x,e=>q7 e fun n _=>n==Str.ofString x&&(kd n==some .local||kd n==some .cell)
 |.attr o a,e=>uI e fun x n _=>n==Str.ofString a&&(attrNames.contains a&&jB kd o x)
 |.sub o i,e=>Gb e fun x y _=>jB kd o x&&(jB kd i y&&xu y)
 |.tup ts,e=>qI e fun x _ _=>qT kd ts x
noncomputable def qT(kd:Kd):List MT->List Expr->Bool
 |[],es=>es.isEmpty
 |x::xs,es=>match es with | e::r=>XQ kd x e&&qT kd xs r | _=>false
end
noncomputable def GM(kd:Kd):PT->Expr->Bool:=XS fun n=>kd n==some .local||kd n==some .cell
noncomputable def jgx:MT->Bool
 |.tup _=>true
 |_=>false
noncomputable def uY(t:MT)(e:Expr):Bool:=!jgx t||!(qI e fun x _ _=>x.all (constantsAlone 8))
noncomputable def jbp(e:Expr):Bool:=!(Zu e fun _ _ _ _=>true)
mutual
noncomputable def jev(kd:Kd):MS->Stmt->Bool
 |.assign t e,s=>jgK s fun ts x _=>one (XQ kd t) ts&&(jB kd e x&&uY t x)
 |.expr e,s=>jfY s fun x _=>jB kd e x&&jbp x
 |.ret e,s=>jfC s fun x _=>x.any (jB kd e)
 |.ife c t o,s=>jgb s fun x y z _=>jB kd c x&&(J5 kd t y&&J5 kd o z)
 |.whil c b,s=>O3 s fun x y z _=>z.isEmpty&&(jB kd c x&&J5 kd b y)
 |.ford x e b,s=>jeS s fun t y bd z _=>z.isEmpty&&(q7 t (fun n _=>n==Str.ofString x&&(kd n==some .local||kd n==some .cell))&&(jB kd e y&&(!qL y&&J5 kd b bd)))
 |.fore t it b,s=>jeS s fun x y bd z _=>z.isEmpty&&(qb t it&&(GM kd t x&&(vj kd it y&&J5 kd b bd)))
noncomputable def J5(kd:Kd):List MS->List Stmt->Bool
 |[],ss=>ss.isEmpty
 |x::xs,ss=>match ss with | s::r=>jev kd x s&&J5 kd xs r | _=>false
end
theorem qr{kd:Kd}{es:List Expr}(h:Jx kd [] es=true):es=[]:=List.isEmpty_iff.mp h
theorem zk{kd:Kd}{x:ME}{xs:List ME}:∀ {es:List Expr},Jx kd (x::xs) es=true->∃ e r,es=e::r/\jB kd x e=true/\Jx kd xs r=true
 |[],h=>nomatch h
 |_::_,h=>⟨_,_,rfl,Jy h⟩
theorem qF{kd:Kd}{es:List Expr}(h:qT kd [] es=true):es=[]:=List.isEmpty_iff.mp h
theorem zh{kd:Kd}{x:MT}{xs:List MT}:∀ {es:List Expr},qT kd (x::xs) es=true->∃ e r,es=e::r/\XQ kd x e=true/\qT kd xs r=true
 |[],h=>nomatch h
 |_::_,h=>⟨_,_,rfl,Jy h⟩
theorem Uh{kd:Kd}{es:List Stmt}(h:J5 kd [] es=true):es=[]:=List.isEmpty_iff.mp h
theorem GG{kd:Kd}{x:MS}{xs:List MS}:∀ {es:List Stmt},J5 kd (x::xs) es=true->∃ e r,es=e::r/\jev kd x e=true/\J5 kd xs r=true
 |[],h=>nomatch h
 |_::_,h=>⟨_,_,rfl,Jy h⟩
noncomputable def GV(n:Nat):Bool:=[0,2,3,5,6,8,15,16,19,20,21,23,24,25].contains n
theorem vx{kd:Kd}{me:ME}{e:Expr}(h:jB kd me e=true):GV e.ctorIdx=true:=by
 cases me with
 |comp _ _ _ c=>cases c<;>(apply jaT h;intros;rfl)
 |_=>first | (apply JM h;intros;rfl) | (apply Yt h;intros;rfl) | (apply Q6 h;intros;rfl) | (apply zx h;intros;rfl) | (apply U4 h;intros;rfl) | (apply jeF h;intros;rfl) | (apply iUn h;intros;rfl) | (apply Vz h;intros;rfl) | (apply iIf h;intros;rfl) | (apply vf h;intros;rfl) | (apply YY h;intros;rfl) | (apply Oe h;intros;rfl) | (apply GU h;intros;rfl)
theorem jam{kd:Kd}{mi:MI}{e:Expr}(h:vj kd mi e=true):GV e.ctorIdx=true:=by
 cases mi with
 |of=>exact vx (Jy h).1
 |_=>apply Q6 h;intros;rfl
theorem ff{P:Prop}(h:false=true):P:=nomatch h
theorem jfw{a b c:Option NameKind}(h:(a==b||a==c)=true):a=b\/a=c:=by
 rw [Bool.or_eq_true] at h
 exact h.imp beq_iff_eq.mp beq_iff_eq.mp
noncomputable def q6(kd:Kd):Option ME->List Expr->Bool
 |.none,ifs=>ifs.isEmpty
 |some c,ifs=>one (jB kd c) ifs
theorem iC{G:Expr->Prop}{kd:Kd}{elt:ME}{t:PT}{it:MI}{c:Option ME}{e:Expr}(h:jB kd (.comp elt t it c) e=true) (k:∀ elt' tgt iter ifs sc p,
  XZ kd sc=true->Yn sc t=true->qb t it=true->JP (jD kd sc) t tgt=true->vj kd it iter=true->jB (jD kd sc) elt elt'=true->q6 (jD kd sc) c ifs=true->G (.ListComp elt' [⟨tgt,iter,ifs,0⟩] sc p)):G e:=by
 have h:(Zu e fun x gs sc _=>jdX (fun g=>XZ kd sc&&(Yn sc t&&(qb t it&&(JP (jD kd sc) t g.target&&(vj kd it g.iter&&(jB (jD kd sc) elt x&&q6 (jD kd sc) c g.ifs)))))) gs)=true:=by cases c<;>exact h
 apply jaT h;intro x gs sc p z
 apply jfS (l:=gs) z;intro tgt iter ifs z
 refine aE7 z fun h1 h2 h3 h4 h5 h6 h7=>?_
 exact k _ _ _ _ _ _ h1 h2 h3 h4 h5 h6 h7
theorem jaQ{G:Prop}{kd:Kd}{elt:ME}{t:PT}{it:MI}{c:Option ME}{el tgt iter:Expr}{ifs:List Expr}{sc:Scope}{p:Pos}(h:jB kd (.comp elt t it c) (.ListComp el [⟨tgt,iter,ifs,0⟩] sc p)=true)
  (k:XZ kd sc=true->Yn sc t=true->qb t it=true->JP (jD kd sc) t tgt=true->vj kd it iter=true->jB (jD kd sc) elt el=true->q6 (jD kd sc) c ifs=true->G):G:=by
 have h:(XZ kd sc&&(Yn sc t&&(qb t it&&(JP (jD kd sc) t tgt&&(vj kd it iter&&(jB (jD kd sc) elt el&&q6 (jD kd sc) c ifs))))))=true:=by cases c<;>exact h
 exact aE7 h k
noncomputable def fn_operand_pairs:Fn where
 params:=["instruction"]
 locals:=[]
 body:=[
  .ret (.mklist (.zip (.optab (.sub (.var "instruction") (.int 0))) (.sfrom (.var "instruction") (.int 1))))]
noncomputable def fn_registers_read:Fn where
 params:=["instruction"]
 locals:=["found","sort","operand","own","row"]
 body:=[
  .assign (.var "found") (.list []),
  .fore (.many ["sort","operand"]) (.of (.call "operand_pairs" [(.var "instruction")])) [
   .ife (.cmp .eq (.var "sort") (.str "source")) [
    .expr (.meth (.var "found") "append" [(.var "operand")])] [
    .ife (.cmp .eq (.var "sort") (.str "sources")) [
     .expr (.meth (.var "found") "extend" [(.var "operand")])] [
     .ife (.cmp .eq (.var "sort") (.str "rows")) [
      .assign (.var "own") (.comp (.sub (.var "row") (.int 0)) (.one "row") (.of (.var "operand")) Option.none),
      .fore (.one "row") (.of (.var "operand")) [
       .expr (.meth (.var "found") "extend" [(.comp (.var "register") (.one "register") (.of (.sub (.var "row") (.int 2))) (some (.cmp .nin (.var "register") (.var "own"))))])]] [
]]]],
  .ret (.var "found")]
noncomputable def fn_registers_written:Fn where
 params:=["instruction"]
 locals:=["found","sort","operand"]
 body:=[
  .assign (.var "found") (.list []),
  .fore (.many ["sort","operand"]) (.of (.call "operand_pairs" [(.var "instruction")])) [
   .ife (.cmp .eq (.var "sort") (.str "target")) [
    .expr (.meth (.var "found") "append" [(.var "operand")])] [
    .ife (.cmp .eq (.var "sort") (.str "rows")) [
     .expr (.meth (.var "found") "extend" [(.comp (.sub (.var "row") (.int 0)) (.one "row") (.of (.var "operand")) Option.none)])] [
]]],
  .ret (.var "found")]
noncomputable def fn_LowBlock_init:Fn where
 params:=["self","number","params"]
 locals:=[]
 body:=[
  .assign (.attr (.var "self") "number") (.var "number"),
  .assign (.attr (.var "self") "params") (.var "params"),
  .assign (.attr (.var "self") "ops") (.list []),
  .assign (.attr (.var "self") "end") .none]
noncomputable def fn_LowUnit_init:Fn where
 params:=["self","number","title","is_continuation"]
 locals:=[]
 body:=[
  .assign (.attr (.var "self") "number") (.var "number"),
  .assign (.attr (.var "self") "title") (.var "title"),
  .assign (.attr (.var "self") "is_continuation") (.var "is_continuation"),
  .assign (.attr (.var "self") "entry") (.list []),
  .assign (.attr (.var "self") "needed") (.int 0),
  .assign (.attr (.var "self") "has_rest") (.bool false),
  .assign (.attr (.var "self") "free") (.int 0),
  .assign (.attr (.var "self") "count") (.int 0),
  .assign (.attr (.var "self") "blocks") (.list [])]
noncomputable def fn_LowUnit_fresh:Fn where
 params:=["self"]
 locals:=[]
 body:=[
  .assign (.attr (.var "self") "count") (.bin .add (.attr (.var "self") "count") (.int 1)),
  .ret (.bin .sub (.attr (.var "self") "count") (.int 1))]
noncomputable def fn_end_reads:Fn where
 params:=["end"]
 locals:=[]
 body:=[
  .ife (.cmp .eq (.sub (.var "end") (.int 0)) (.gstr "CALL" "call")) [
   .ret (.bin .add (.list [(.sub (.var "end") (.int 1)),(.sub (.var "end") (.int 2))]) (.mklist (.of (.sub (.var "end") (.int 3)))))] [
],
  .ife (.cmp .eq (.sub (.var "end") (.int 0)) (.gstr "GIVE" "give")) [
   .ret (.bin .add (.list [(.sub (.var "end") (.int 1))]) (.mklist (.of (.sub (.var "end") (.int 2)))))] [
],
  .ret (.ite (.cmp .eq (.sub (.var "end") (.int 0)) (.gstr "GOTO" "goto")) (.mklist (.of (.sub (.var "end") (.int 2)))) (.list [(.sub (.var "end") (.int 1))]))]
noncomputable def fn_end_blocks:Fn where
 params:=["end"]
 locals:=[]
 body:=[
  .ife (.cmp .eq (.sub (.var "end") (.int 0)) (.gstr "GOTO" "goto")) [
   .ret (.list [(.sub (.var "end") (.int 1))])] [
],
  .ret (.ite (.cmp .eq (.sub (.var "end") (.int 0)) (.gstr "BRANCH" "branch")) (.list [(.sub (.var "end") (.int 2)),(.sub (.var "end") (.int 3))]) (.list []))]
noncomputable def fn_mask_of:Fn where
 params:=["registers"]
 locals:=["found","register"]
 body:=[
  .assign (.var "found") (.int 0),
  .fore (.one "register") (.of (.var "registers")) [
   .assign (.var "found") (.bin .bor (.var "found") (.bin .shl (.int 1) (.var "register")))],
  .ret (.var "found")]
noncomputable def fn_bits_of:Fn where
 params:=["mask"]
 locals:=["found","at"]
 body:=[
  .assign (.var "found") (.list []),
  .assign (.var "at") (.int 0),
  .whil (.cmp .gt (.bin .shr (.var "mask") (.var "at")) (.int 0)) [
   .ife (.cmp .eq (.bin .band (.bin .shr (.var "mask") (.var "at")) (.int 1)) (.int 1)) [
    .expr (.meth (.var "found") "append" [(.var "at")])] [
],
   .assign (.var "at") (.bin .add (.var "at") (.int 1))],
  .ret (.var "found")]
noncomputable def fn_is_in:Fn where
 params:=["mask","register"]
 locals:=[]
 body:=[
  .ret (.cmp .eq (.bin .band (.bin .shr (.var "mask") (.var "register")) (.int 1)) (.int 1))]
noncomputable def fn_without:Fn where
 params:=["mask","other"]
 locals:=[]
 body:=[
  .ret (.bin .band (.var "mask") (.bin .bxor (.var "mask") (.var "other")))]
noncomputable def fn_live_at_end:Fn where
 params:=["unit","block","begins"]
 locals:=["found","number"]
 body:=[
  .assign (.var "found") (.call "mask_of" [(.call "end_reads" [(.attr (.var "block") "end")])]),
  .fore (.one "number") (.of (.call "end_blocks" [(.attr (.var "block") "end")])) [
   .assign (.var "found") (.bin .bor (.var "found") (.call "without" [(.sub (.var "begins") (.var "number")),(.call "mask_of" [(.attr (.sub (.attr (.var "unit") "blocks") (.var "number")) "params")])]))],
  .ret (.var "found")]
noncomputable def fn_live_ahead:Fn where
 params:=["op","after"]
 locals:=[]
 body:=[
  .ret (.bin .bor (.call "without" [(.var "after"),(.call "mask_of" [(.call "registers_written" [(.var "op")])])]) (.call "mask_of" [(.call "registers_read" [(.var "op")])]))]
noncomputable def fn_live_behind:Fn where
 params:=["unit","block","begins"]
 locals:=["after","found","op"]
 body:=[
  .assign (.var "after") (.call "live_at_end" [(.var "unit"),(.var "block"),(.var "begins")]),
  .assign (.var "found") (.list []),
  .fore (.one "op") (.of (.srev (.attr (.var "block") "ops"))) [
   .expr (.meth (.var "found") "append" [(.var "after")]),
   .assign (.var "after") (.call "live_ahead" [(.var "op"),(.var "after")])],
  .ret (.srev (.var "found"))]
noncomputable def fn_live_at_begin:Fn where
 params:=["unit","block","begins"]
 locals:=["after","op"]
 body:=[
  .assign (.var "after") (.call "live_at_end" [(.var "unit"),(.var "block"),(.var "begins")]),
  .fore (.one "op") (.of (.srev (.attr (.var "block") "ops"))) [
   .assign (.var "after") (.call "live_ahead" [(.var "op"),(.var "after")])],
  .ret (.var "after")]
noncomputable def fn_begins_of:Fn where
 params:=["unit"]
 locals:=["begins","waiting","ahead","number","found"]
 body:=[
  .assign (.var "begins") (.bin .mul (.list [(.int 0)]) (.bcall "len" [(.attr (.var "unit") "blocks")])),
  .assign (.var "waiting") (.mklist (.range (.bcall "len" [(.attr (.var "unit") "blocks")]))),
  .assign (.var "ahead") (.call "blocks_ahead" [(.var "unit")]),
  .whil (.cmp .ne (.var "waiting") (.list [])) [
   .assign (.var "number") (.meth (.var "waiting") "pop" []),
   .assign (.var "found") (.call "live_at_begin" [(.var "unit"),(.sub (.attr (.var "unit") "blocks") (.var "number")),(.var "begins")]),
   .ife (.cmp .ne (.var "found") (.sub (.var "begins") (.var "number"))) [
    .assign (.sub (.var "begins") (.var "number")) (.var "found"),
    .expr (.meth (.var "waiting") "extend" [(.comp (.var "other") (.one "other") (.of (.sub (.var "ahead") (.var "number"))) (some (.cmp .nin (.var "other") (.var "waiting"))))])] [
]],
  .ret (.var "begins")]
noncomputable def fn_blocks_ahead:Fn where
 params:=["unit"]
 locals:=["found","block","number"]
 body:=[
  .assign (.var "found") (.comp (.list []) (.one "block") (.of (.attr (.var "unit") "blocks")) Option.none),
  .fore (.one "block") (.of (.attr (.var "unit") "blocks")) [
   .fore (.one "number") (.of (.call "end_blocks" [(.attr (.var "block") "end")])) [
    .ife (.cmp .nin (.attr (.var "block") "number") (.sub (.var "found") (.var "number"))) [
     .expr (.meth (.sub (.var "found") (.var "number")) "append" [(.attr (.var "block") "number")])] [
]]],
  .ret (.var "found")]
noncomputable def fn_Apart_init:Fn where
 params:=["self","count"]
 locals:=[]
 body:=[
  .assign (.attr (.var "self") "masks") (.bin .mul (.list [(.int 0)]) (.var "count"))]
noncomputable def fn_Apart_put:Fn where
 params:=["self","register","mask"]
 locals:=["others","other"]
 body:=[
  .assign (.var "others") (.call "without" [(.var "mask"),(.bin .shl (.int 1) (.var "register"))]),
  .assign (.sub (.attr (.var "self") "masks") (.var "register")) (.bin .bor (.sub (.attr (.var "self") "masks") (.var "register")) (.var "others")),
  .fore (.one "other") (.of (.call "bits_of" [(.var "others")])) [
   .assign (.sub (.attr (.var "self") "masks") (.var "other")) (.bin .bor (.sub (.attr (.var "self") "masks") (.var "other")) (.bin .shl (.int 1) (.var "register")))]]
noncomputable def fn_Apart_are_apart:Fn where
 params:=["self","one","other"]
 locals:=[]
 body:=[
  .ret (.call "is_in" [(.sub (.attr (.var "self") "masks") (.var "one")),(.var "other")])]
noncomputable def fn_put_op:Fn where
 params:=["apart","op","after"]
 locals:=["written","around","register"]
 body:=[
  .assign (.var "written") (.call "registers_written" [(.var "op")]),
  .assign (.var "around") (.bin .bor (.var "after") (.call "mask_of" [(.var "written")])),
  .ife (.cmp .eq (.sub (.var "op") (.int 0)) (.str "fix")) [
   .assign (.var "around") (.bin .bor (.var "around") (.call "mask_of" [(.call "registers_read" [(.var "op")])]))] [
],
  .fore (.one "register") (.of (.var "written")) [
   .expr (.meth (.var "apart") "put" [(.var "register"),(.var "around")])]]
noncomputable def fn_apart_of:Fn where
 params:=["unit"]
 locals:=["begins","apart","entry","register","block","params","op","after"]
 body:=[
  .assign (.var "begins") (.call "begins_of" [(.var "unit")]),
  .assign (.var "apart") (.call "Apart" [(.attr (.var "unit") "count")]),
  .assign (.var "entry") (.bin .bor (.call "mask_of" [(.attr (.var "unit") "entry")]) (.sub (.var "begins") (.int 0))),
  .fore (.one "register") (.of (.attr (.var "unit") "entry")) [
   .expr (.meth (.var "apart") "put" [(.var "register"),(.var "entry")])],
  .fore (.one "block") (.of (.attr (.var "unit") "blocks")) [
   .assign (.var "params") (.bin .bor (.call "mask_of" [(.attr (.var "block") "params")]) (.sub (.var "begins") (.attr (.var "block") "number"))),
   .fore (.one "register") (.of (.attr (.var "block") "params")) [
    .expr (.meth (.var "apart") "put" [(.var "register"),(.var "params")])],
   .fore (.many ["op","after"]) (.zip (.attr (.var "block") "ops") (.call "live_behind" [(.var "unit"),(.var "block"),(.var "begins")])) [
    .expr (.call "put_op" [(.var "apart"),(.var "op"),(.var "after")])]],
  .ret (.var "apart")]
noncomputable def fn_given_order:Fn where
 params:=["unit"]
 locals:=["found","register","block","op"]
 body:=[
  .assign (.var "found") .idict0,
  .fore (.one "register") (.of (.attr (.var "unit") "entry")) [
   .assign (.sub (.var "found") (.var "register")) (.bool true)],
  .fore (.one "block") (.of (.attr (.var "unit") "blocks")) [
   .fore (.one "register") (.of (.attr (.var "block") "params")) [
    .assign (.sub (.var "found") (.var "register")) (.bool true)],
   .fore (.one "op") (.of (.attr (.var "block") "ops")) [
    .fore (.one "register") (.of (.call "registers_written" [(.var "op")])) [
     .assign (.sub (.var "found") (.var "register")) (.bool true)]]],
  .ret (.mkdlist (.var "found"))]
noncomputable def fn_wishes_of:Fn where
 params:=["unit"]
 locals:=["found","block","source","target"]
 body:=[
  .assign (.var "found") (.comp (.list []) (.one "register") (.range (.attr (.var "unit") "count")) Option.none),
  .fore (.one "block") (.of (.attr (.var "unit") "blocks")) [
   .ife (.cmp .eq (.sub (.attr (.var "block") "end") (.int 0)) (.gstr "GOTO" "goto")) [
    .fore (.many ["source","target"]) (.zip (.sub (.attr (.var "block") "end") (.int 2)) (.attr (.sub (.attr (.var "unit") "blocks") (.sub (.attr (.var "block") "end") (.int 1))) "params")) [
     .expr (.meth (.sub (.var "found") (.var "source")) "append" [(.var "target")]),
     .expr (.meth (.sub (.var "found") (.var "target")) "append" [(.var "source")])]] [
]],
  .ret (.var "found")]
noncomputable def fn_Places_init:Fn where
 params:=["self","of","count"]
 locals:=[]
 body:=[
  .assign (.attr (.var "self") "of") (.var "of"),
  .assign (.attr (.var "self") "count") (.var "count")]
noncomputable def fn_taken_places:Fn where
 params:=["apart","of","register"]
 locals:=["found","other"]
 body:=[
  .assign (.var "found") (.int 0),
  .fore (.one "other") (.of (.call "bits_of" [(.sub (.attr (.var "apart") "masks") (.var "register"))])) [
   .ife (.cmp .inn (.var "other") (.var "of")) [
    .assign (.var "found") (.bin .bor (.var "found") (.bin .shl (.int 1) (.sub (.var "of") (.var "other"))))] [
]],
  .ret (.var "found")]
noncomputable def fn_lowest_free:Fn where
 params:=["mask"]
 locals:=["at"]
 body:=[
  .assign (.var "at") (.int 0),
  .whil (.call "is_in" [(.var "mask"),(.var "at")]) [
   .assign (.var "at") (.bin .add (.var "at") (.int 1))],
  .ret (.var "at")]
noncomputable def fn_chosen_place:Fn where
 params:=["apart","of","wishes","register"]
 locals:=["taken","other"]
 body:=[
  .assign (.var "taken") (.call "taken_places" [(.var "apart"),(.var "of"),(.var "register")]),
  .fore (.one "other") (.of (.sub (.var "wishes") (.var "register"))) [
   .ife (.and (.cmp .inn (.var "other") (.var "of")) (.not (.call "is_in" [(.var "taken"),(.sub (.var "of") (.var "other"))]))) [
    .ret (.sub (.var "of") (.var "other"))] [
]],
  .ret (.call "lowest_free" [(.var "taken")])]
noncomputable def fn_places_of:Fn where
 params:=["unit"]
 locals:=["apart","wishes","of","place","register","count"]
 body:=[
  .assign (.var "apart") (.call "apart_of" [(.var "unit")]),
  .assign (.var "wishes") (.call "wishes_of" [(.var "unit")]),
  .assign (.var "of") .idict0,
  .fore (.many ["place","register"]) (.enum (.attr (.var "unit") "entry")) [
   .assign (.sub (.var "of") (.var "register")) (.var "place")],
  .fore (.one "register") (.of (.call "given_order" [(.var "unit")])) [
   .ife (.cmp .nin (.var "register") (.var "of")) [
    .assign (.sub (.var "of") (.var "register")) (.call "chosen_place" [(.var "apart"),(.var "of"),(.var "wishes"),(.var "register")])] [
]],
  .assign (.var "count") (.bcall "len" [(.attr (.var "unit") "entry")]),
  .ford "register" (.var "of") [
   .assign (.var "count") (.bcall "max" [(.var "count"),(.bin .add (.sub (.var "of") (.var "register")) (.int 1))])],
  .ret (.call "Places" [(.var "of"),(.var "count")])]
noncomputable def fn_plain_places:Fn where
 params:=["unit"]
 locals:=["of","register"]
 body:=[
  .assign (.var "of") .idict0,
  .fore (.one "register") (.of (.call "given_order" [(.var "unit")])) [
   .assign (.sub (.var "of") (.var "register")) (.bcall "len" [(.var "of")])],
  .ret (.call "Places" [(.var "of"),(.bcall "len" [(.var "of")])])]
noncomputable def fn_clash_in:Fn where
 params:=["of","mask"]
 locals:=["met","register"]
 body:=[
  .assign (.var "met") .idict0,
  .fore (.one "register") (.of (.call "bits_of" [(.var "mask")])) [
   .ife (.cmp .inn (.sub (.var "of") (.var "register")) (.var "met")) [
    .ret (.tup [(.sub (.var "met") (.sub (.var "of") (.var "register"))),(.var "register")])] [
],
   .assign (.sub (.var "met") (.sub (.var "of") (.var "register"))) (.var "register")],
  .ret .none]
noncomputable def fn_op_clash:Fn where
 params:=["of","op","after"]
 locals:=["register","found"]
 body:=[
  .fore (.one "register") (.of (.call "registers_written" [(.var "op")])) [
   .assign (.var "found") (.call "clash_in" [(.var "of"),(.bin .bor (.var "after") (.call "mask_of" [(.call "registers_written" [(.var "op")])]))]),
   .ife (.isnn (.var "found")) [
    .ret (.var "found")] [
],
   .ife (.and (.cmp .eq (.sub (.var "op") (.int 0)) (.str "fix")) (.call "is_clobbered" [(.var "of"),(.var "op"),(.var "register")])) [
    .ret (.tup [(.var "register"),(.var "register")])] [
]],
  .ret .none]
noncomputable def fn_is_clobbered:Fn where
 params:=["of","op","register"]
 locals:=["own"]
 body:=[
  .assign (.var "own") (.call "registers_written" [(.var "op")]),
  .ret (.bcall "any" [(.comp (.cmp .eq (.sub (.var "of") (.var "source")) (.sub (.var "of") (.var "register"))) (.one "source") (.of (.call "registers_read" [(.var "op")])) (some (.cmp .nin (.var "source") (.var "own"))))])]
noncomputable def fn_wrong_pair:Fn where
 params:=["unit","of"]
 locals:=["begins","found","block","at","after"]
 body:=[
  .assign (.var "begins") (.call "begins_of" [(.var "unit")]),
  .assign (.var "found") (.call "clash_in" [(.var "of"),(.bin .bor (.call "mask_of" [(.attr (.var "unit") "entry")]) (.sub (.var "begins") (.int 0)))]),
  .ife (.isnn (.var "found")) [
   .ret (.tup [(.int 0),(.neg (.int 1)),(.var "found")])] [
],
  .fore (.one "block") (.of (.attr (.var "unit") "blocks")) [
   .assign (.var "found") (.call "clash_in" [(.var "of"),(.bin .bor (.call "mask_of" [(.attr (.var "block") "params")]) (.sub (.var "begins") (.attr (.var "block") "number")))]),
   .ife (.isnn (.var "found")) [
    .ret (.tup [(.attr (.var "block") "number"),(.neg (.int 1)),(.var "found")])] [
],
   .fore (.many ["at","after"]) (.enum (.call "live_behind" [(.var "unit"),(.var "block"),(.var "begins")])) [
    .assign (.var "found") (.call "op_clash" [(.var "of"),(.sub (.attr (.var "block") "ops") (.var "at")),(.var "after")]),
    .ife (.isnn (.var "found")) [
     .ret (.tup [(.attr (.var "block") "number"),(.var "at"),(.var "found")])] [
]]],
  .ret .none]
noncomputable def fn_lives_apart:Fn where
 params:=["unit","places"]
 locals:=["place","register"]
 body:=[
  .fore (.many ["place","register"]) (.enum (.attr (.var "unit") "entry")) [
   .ife (.cmp .ne (.meth (.attr (.var "places") "of") "get" [(.var "register"),(.neg (.int 1))]) (.var "place")) [
    .ret (.bool false)] [
]],
  .fore (.one "register") (.of (.call "given_order" [(.var "unit")])) [
   .ife (.or (.cmp .nin (.var "register") (.attr (.var "places") "of")) (.not (.cmp2 .le .lt (.int 0) (.sub (.attr (.var "places") "of") (.var "register")) (.attr (.var "places") "count")))) [
    .ret (.bool false)] [
]],
  .ret (.isn (.call "wrong_pair" [(.var "unit"),(.attr (.var "places") "of")]))]
noncomputable def fn_law_draw:Fn where
 params:=["deck","many"]
 locals:=[]
 body:=[
  .assign (.sub (.var "deck") (.int 1)) (.bin .add (.sub (.var "deck") (.int 1)) (.int 1)),
  .ife (.cmp .le (.sub (.var "deck") (.int 1)) (.bcall "len" [(.sub (.var "deck") (.int 0))])) [
   .ret (.bin .mod (.sub (.sub (.var "deck") (.int 0)) (.bin .sub (.sub (.var "deck") (.int 1)) (.int 1))) (.var "many"))] [
],
  .assign (.sub (.var "deck") (.int 2)) (.bin .mod (.bin .add (.bin .add (.bin .mul (.sub (.var "deck") (.int 2)) (.int 40692)) (.bin .mul (.int 1013) (.sub (.var "deck") (.int 1)))) (.int 7)) (.int 2147483399)),
  .ret (.bin .mod (.bin .fdiv (.sub (.var "deck") (.int 2)) (.int 128)) (.var "many"))]
noncomputable def fn_law_one:Fn where
 params:=["deck","items"]
 locals:=[]
 body:=[
  .ret (.sub (.var "items") (.call "_law_draw" [(.var "deck"),(.bcall "len" [(.var "items")])]))]
noncomputable def fn_law_op:Fn where
 params:=["deck","unit","known"]
 locals:=["way","sources","one","other"]
 body:=[
  .assign (.tup [(.var "way"),(.var "sources")]) (.tup [(.call "_law_draw" [(.var "deck"),(.int 9)]),(.list [(.call "_law_one" [(.var "deck"),(.var "known")]),(.call "_law_one" [(.var "deck"),(.var "known")])])]),
  .ife (.cmp .eq (.var "way") (.int 7)) [
   .ret (.tup [(.str "define"),(.int 0),(.sub (.var "sources") (.int 0))])] [
],
  .ife (.cmp .eq (.var "way") (.int 8)) [
   .ret (.tup [(.str "setglobal"),(.int 1),(.sub (.var "sources") (.int 1))])] [
],
  .assign (.var "one") (.meth (.var "unit") "fresh" []),
  .expr (.meth (.var "known") "append" [(.var "one")]),
  .ife (.cmp .eq (.var "way") (.int 0)) [
   .ret (.tup [(.str "const"),(.var "one"),(.int 0)])] [
],
  .ife (.cmp .eq (.var "way") (.int 1)) [
   .ret (.tup [(.str "move"),(.var "one"),(.sub (.var "sources") (.int 0))])] [
],
  .ife (.cmp .eq (.var "way") (.int 2)) [
   .ret (.tup [(.str "global"),(.var "one"),(.int 1)])] [
],
  .ife (.cmp .gt (.var "way") (.int 4)) [
   .ret (.tup [(.ite (.cmp .eq (.var "way") (.int 5)) (.str "prim") (.str "closure")),(.var "one"),(.int 2),(.bcall "tuple" [(.var "sources")])])] [
],
  .assign (.var "other") (.meth (.var "unit") "fresh" []),
  .expr (.meth (.var "known") "append" [(.var "other")]),
  .ret (.tup [(.str "fix"),(.tup [(.tup [(.var "one"),(.int 0),(.tup [(.var "other"),(.sub (.var "sources") (.int 0))])]),(.tup [(.var "other"),(.int 1),(.tup [(.sub (.var "sources") (.int 1)),(.var "one")])])])])]
noncomputable def fn_law_block:Fn where
 params:=["deck","unit","known","many"]
 locals:=["own","turn"]
 body:=[
  .assign (.var "own") (.call "LowBlock" [(.bcall "len" [(.attr (.var "unit") "blocks")]),(.comp (.meth (.var "unit") "fresh" []) (.one "turn") (.range (.var "many")) Option.none)]),
  .expr (.meth (.attr (.var "unit") "blocks") "append" [(.var "own")]),
  .expr (.meth (.var "known") "extend" [(.attr (.var "own") "params")]),
  .fore (.one "turn") (.range (.call "_law_draw" [(.var "deck"),(.int 3)])) [
   .expr (.meth (.attr (.var "own") "ops") "append" [(.call "_law_op" [(.var "deck"),(.var "unit"),(.var "known")])])],
  .ret (.var "own")]
noncomputable def fn_law_some:Fn where
 params:=["deck","known","many"]
 locals:=[]
 body:=[
  .ret (.bcall "tuple" [(.comp (.call "_law_one" [(.var "deck"),(.var "known")]) (.one "turn") (.range (.var "many")) Option.none)])]
noncomputable def fn_law_meeting:Fn where
 params:=["deck","unit","here","known","many"]
 locals:=["ways","spots","turn","own","join","way","row"]
 body:=[
  .assign (.tup [(.var "ways"),(.var "spots")]) (.tup [(.list []),(.list [])]),
  .fore (.one "turn") (.range (.int 2)) [
   .assign (.var "own") (.mklist (.of (.var "known"))),
   .expr (.meth (.var "ways") "append" [(.call "_law_block" [(.var "deck"),(.var "unit"),(.var "own"),(.int 0)])]),
   .expr (.meth (.var "spots") "append" [(.call "_law_some" [(.var "deck"),(.var "own"),(.var "many")])])],
  .assign (.var "join") (.call "_law_block" [(.var "deck"),(.var "unit"),(.var "known"),(.var "many")]),
  .fore (.many ["way","row"]) (.zip (.var "ways") (.var "spots")) [
   .assign (.attr (.var "way") "end") (.tup [(.str "goto"),(.attr (.var "join") "number"),(.var "row")])],
  .assign (.attr (.var "here") "end") (.tup [(.str "branch"),(.call "_law_one" [(.var "deck"),(.sto (.var "known") (.int 1))]),(.attr (.sub (.var "ways") (.int 0)) "number"),(.attr (.sub (.var "ways") (.int 1)) "number")]),
  .ret (.var "join")]
noncomputable def fn_law_loop:Fn where
 params:=["deck","unit","here","known","many"]
 locals:=["row","head","inner","body","test","rest"]
 body:=[
  .assign (.var "row") (.call "_law_some" [(.var "deck"),(.var "known"),(.var "many")]),
  .assign (.var "head") (.call "_law_block" [(.var "deck"),(.var "unit"),(.var "known"),(.var "many")]),
  .assign (.tup [(.attr (.var "here") "end"),(.var "inner")]) (.tup [(.tup [(.str "goto"),(.attr (.var "head") "number"),(.var "row")]),(.mklist (.of (.var "known")))]),
  .assign (.var "body") (.call "_law_block" [(.var "deck"),(.var "unit"),(.var "inner"),(.int 0)]),
  .assign (.attr (.var "body") "end") (.tup [(.str "goto"),(.attr (.var "head") "number"),(.call "_law_some" [(.var "deck"),(.var "inner"),(.var "many")])]),
  .assign (.var "test") (.call "_law_one" [(.var "deck"),(.var "known")]),
  .assign (.var "rest") (.call "_law_block" [(.var "deck"),(.var "unit"),(.var "known"),(.int 0)]),
  .assign (.attr (.var "head") "end") (.tup [(.str "branch"),(.var "test"),(.attr (.var "body") "number"),(.attr (.var "rest") "number")]),
  .ret (.var "rest")]
noncomputable def fn_law_unit:Fn where
 params:=["deck"]
 locals:=["unit","known","here","turn","way","many","row","later"]
 body:=[
  .assign (.var "unit") (.call "LowUnit" [(.int 0),(.str "u"),(.bool false)]),
  .assign (.attr (.var "unit") "entry") (.comp (.meth (.var "unit") "fresh" []) (.one "turn") (.range (.bin .add (.int 1) (.call "_law_draw" [(.var "deck"),(.int 2)]))) Option.none),
  .assign (.var "known") (.mklist (.of (.attr (.var "unit") "entry"))),
  .assign (.var "here") (.call "_law_block" [(.var "deck"),(.var "unit"),(.var "known"),(.int 0)]),
  .fore (.one "turn") (.range (.call "_law_draw" [(.var "deck"),(.int 4)])) [
   .assign (.tup [(.var "way"),(.var "many")]) (.tup [(.call "_law_draw" [(.var "deck"),(.int 3)]),(.call "_law_draw" [(.var "deck"),(.int 3)])]),
   .ife (.cmp .eq (.var "way") (.int 0)) [
    .assign (.var "row") (.call "_law_some" [(.var "deck"),(.var "known"),(.var "many")]),
    .assign (.var "later") (.call "_law_block" [(.var "deck"),(.var "unit"),(.var "known"),(.var "many")]),
    .assign (.attr (.var "here") "end") (.tup [(.str "goto"),(.attr (.var "later") "number"),(.var "row")]),
    .assign (.var "here") (.var "later")] [
    .ife (.cmp .eq (.var "way") (.int 1)) [
     .assign (.var "here") (.call "_law_meeting" [(.var "deck"),(.var "unit"),(.var "here"),(.var "known"),(.var "many")])] [
     .assign (.var "here") (.call "_law_loop" [(.var "deck"),(.var "unit"),(.var "here"),(.var "known"),(.var "many")])]]],
  .ife (.cmp .eq (.call "_law_draw" [(.var "deck"),(.int 2)]) (.int 0)) [
   .assign (.attr (.var "here") "end") (.tup [(.str "give"),(.call "_law_one" [(.var "deck"),(.var "known")]),(.call "_law_some" [(.var "deck"),(.var "known"),(.int 2)])])] [
   .assign (.attr (.var "here") "end") (.tup [(.str "call"),(.call "_law_one" [(.var "deck"),(.var "known")]),(.call "_law_one" [(.var "deck"),(.var "known")]),(.call "_law_some" [(.var "deck"),(.var "known"),(.int 1)])])],
  .ret (.var "unit")]
noncomputable def fn_law_gives:Fn where
 params:=["op"]
 locals:=[]
 body:=[
  .ife (.cmp .eq (.sub (.var "op") (.int 0)) (.str "fix")) [
   .ret (.comp (.sub (.var "row") (.int 0)) (.one "row") (.of (.sub (.var "op") (.int 1))) Option.none)] [
],
  .ret (.ite (.cmp .inn (.sub (.var "op") (.int 0)) (.tup [(.str "define"),(.str "setglobal")])) (.list []) (.list [(.sub (.var "op") (.int 1))]))]
noncomputable def fn_law_reads:Fn where
 params:=["op"]
 locals:=["found","row"]
 body:=[
  .ife (.cmp .eq (.sub (.var "op") (.int 0)) (.str "fix")) [
   .assign (.var "found") (.list []),
   .fore (.one "row") (.of (.sub (.var "op") (.int 1))) [
    .expr (.meth (.var "found") "extend" [(.comp (.var "one") (.one "one") (.of (.sub (.var "row") (.int 2))) (some (.cmp .nin (.var "one") (.call "_law_gives" [(.var "op")]))))])],
   .ret (.var "found")] [
],
  .ife (.cmp .inn (.sub (.var "op") (.int 0)) (.tup [(.str "const"),(.str "global")])) [
   .ret (.list [])] [
],
  .ret (.ite (.cmp .inn (.sub (.var "op") (.int 0)) (.tup [(.str "define"),(.str "setglobal"),(.str "move")])) (.list [(.sub (.var "op") (.int 2))]) (.mklist (.of (.sub (.var "op") (.int 3)))))]
noncomputable def fn_law_end_reads:Fn where
 params:=["end"]
 locals:=[]
 body:=[
  .ife (.cmp .eq (.sub (.var "end") (.int 0)) (.str "goto")) [
   .ret (.mklist (.of (.sub (.var "end") (.int 2))))] [
],
  .ife (.cmp .eq (.sub (.var "end") (.int 0)) (.str "branch")) [
   .ret (.list [(.sub (.var "end") (.int 1))])] [
],
  .ret (.ite (.cmp .eq (.sub (.var "end") (.int 0)) (.str "give")) (.bin .add (.list [(.sub (.var "end") (.int 1))]) (.mklist (.of (.sub (.var "end") (.int 2))))) (.bin .add (.list [(.sub (.var "end") (.int 1)),(.sub (.var "end") (.int 2))]) (.mklist (.of (.sub (.var "end") (.int 3))))))]
noncomputable def fn_law_lives:Fn where
 params:=["unit","register","number","at"]
 locals:=["met","waiting","turn","own","ops","reads","gives","later","target"]
 body:=[
  .assign (.tup [(.var "met"),(.var "waiting")]) (.tup [(.list []),(.list [(.list [(.var "number"),(.var "at")])])]),
  .fore (.one "turn") (.range (.bin .add (.bcall "len" [(.attr (.var "unit") "blocks")]) (.int 1))) [
   .ife (.cmp .eq (.var "waiting") (.list [])) [
    .ret (.bool false)] [
],
   .assign (.tup [(.var "number"),(.var "at")]) (.meth (.var "waiting") "pop" []),
   .assign (.var "own") (.sub (.attr (.var "unit") "blocks") (.var "number")),
   .assign (.var "ops") (.sfrom (.attr (.var "own") "ops") (.var "at")),
   .assign (.var "reads") (.bin .add (.comp (.var "place") (.many ["place","op"]) (.enum (.var "ops")) (some (.cmp .inn (.var "register") (.call "_law_reads" [(.var "op")])))) (.list [(.bcall "len" [(.var "ops")])])),
   .assign (.var "gives") (.bin .add (.comp (.var "place") (.many ["place","op"]) (.enum (.var "ops")) (some (.cmp .inn (.var "register") (.call "_law_gives" [(.var "op")])))) (.list [(.bcall "len" [(.var "ops")])])),
   .ife (.and (.cmp .lt (.sub (.var "reads") (.int 0)) (.bcall "len" [(.var "ops")])) (.cmp .le (.sub (.var "reads") (.int 0)) (.sub (.var "gives") (.int 0)))) [
    .ret (.bool true)] [
],
   .ife (.cmp .eq (.sub (.var "gives") (.int 0)) (.bcall "len" [(.var "ops")])) [
    .ife (.cmp .inn (.var "register") (.call "_law_end_reads" [(.attr (.var "own") "end")])) [
     .ret (.bool true)] [
],
    .assign (.var "later") (.ite (.cmp .eq (.sub (.attr (.var "own") "end") (.int 0)) (.str "goto")) (.list [(.sub (.attr (.var "own") "end") (.int 1))]) (.ite (.cmp .eq (.sub (.attr (.var "own") "end") (.int 0)) (.str "branch")) (.mklist (.of (.sfrom (.attr (.var "own") "end") (.int 2)))) (.list []))),
    .fore (.one "target") (.of (.var "later")) [
     .ife (.and (.cmp .nin (.var "target") (.var "met")) (.cmp .nin (.var "register") (.attr (.sub (.attr (.var "unit") "blocks") (.var "target")) "params"))) [
      .expr (.meth (.var "met") "append" [(.var "target")]),
      .expr (.meth (.var "waiting") "append" [(.list [(.var "target"),(.int 0)])])] [
]]] [
]],
  .ret (.bool false)]
noncomputable def fn_law_times:Fn where
 params:=["unit"]
 locals:=["found","own","at","op","time"]
 body:=[
  .assign (.var "found") (.list [(.list [(.int 0),(.neg (.int 1)),(.mklist (.of (.attr (.var "unit") "entry"))),(.list [(.int 0),(.int 0)]),.none])]),
  .fore (.one "own") (.of (.attr (.var "unit") "blocks")) [
   .expr (.meth (.var "found") "append" [(.list [(.attr (.var "own") "number"),(.neg (.int 1)),(.mklist (.of (.attr (.var "own") "params"))),(.list [(.attr (.var "own") "number"),(.int 0)]),.none])]),
   .fore (.many ["at","op"]) (.enum (.attr (.var "own") "ops")) [
    .expr (.meth (.var "found") "append" [(.list [(.attr (.var "own") "number"),(.var "at"),(.call "_law_gives" [(.var "op")]),(.list [(.attr (.var "own") "number"),(.bin .add (.var "at") (.int 1))]),(.var "op")])])]],
  .fore (.one "time") (.of (.var "found")) [
   .assign (.sub (.var "time") (.int 3)) (.comp (.var "one") (.one "one") (.range (.attr (.var "unit") "count")) (some (.or (.cmp .inn (.var "one") (.sub (.var "time") (.int 2))) (.call "_law_lives" [(.var "unit"),(.var "one"),(.sub (.sub (.var "time") (.int 3)) (.int 0)),(.sub (.sub (.var "time") (.int 3)) (.int 1))]))))],
  .ret (.var "found")]
noncomputable def fn_law_pairs:Fn where
 params:=["times"]
 locals:=["found","number","at","given","there","op","around","one","other"]
 body:=[
  .assign (.var "found") .tdict0,
  .fore (.many ["number","at","given","there","op"]) (.of (.var "times")) [
   .assign (.var "around") (.bin .add (.var "there") (.ite (.and (.isnn (.var "op")) (.cmp .eq (.sub (.var "op") (.int 0)) (.str "fix"))) (.call "_law_reads" [(.var "op")]) (.list []))),
   .fore (.one "one") (.of (.var "given")) [
    .fore (.one "other") (.of (.var "around")) [
     .ife (.cmp .ne (.var "one") (.var "other")) [
      .assign (.sub (.var "found") (.tup [(.var "one"),(.var "other")])) (.bool true),
      .assign (.sub (.var "found") (.tup [(.var "other"),(.var "one")])) (.bool true)] [
]]]],
  .ret (.var "found")]
noncomputable def fn_law_wrong:Fn where
 params:=["times","of"]
 locals:=["number","at","given","there","op","other","one"]
 body:=[
  .fore (.many ["number","at","given","there","op"]) (.of (.var "times")) [
   .ife (.or (.cmp .lt (.var "at") (.int 0)) (.cmp .ne (.var "given") (.list []))) [
    .fore (.one "other") (.of (.var "there")) [
     .fore (.one "one") (.of (.var "there")) [
      .ife (.and (.cmp .lt (.var "one") (.var "other")) (.cmp .eq (.sub (.var "of") (.var "one")) (.sub (.var "of") (.var "other")))) [
       .ret (.tup [(.var "number"),(.var "at"),(.tup [(.var "one"),(.var "other")])])] [
]]]] [
],
   .ife (.and (.isnn (.var "op")) (.cmp .eq (.sub (.var "op") (.int 0)) (.str "fix"))) [
    .fore (.one "one") (.of (.var "given")) [
     .ife (.cmp .ne (.comp (.var "source") (.one "source") (.of (.call "_law_reads" [(.var "op")])) (some (.cmp .eq (.sub (.var "of") (.var "source")) (.sub (.var "of") (.var "one"))))) (.list [])) [
      .ret (.tup [(.var "number"),(.var "at"),(.tup [(.var "one"),(.var "one")])])] [
]]] [
]],
  .ret .none]
noncomputable def fn_law_order:Fn where
 params:=["unit"]
 locals:=["found","own","op"]
 body:=[
  .assign (.var "found") (.list []),
  .fore (.one "own") (.of (.attr (.var "unit") "blocks")) [
   .assign (.var "found") (.bin .add (.var "found") (.attr (.var "own") "params")),
   .fore (.one "op") (.of (.attr (.var "own") "ops")) [
    .assign (.var "found") (.bin .add (.var "found") (.call "_law_gives" [(.var "op")]))]],
  .ret (.var "found")]
noncomputable def fn_law_is_told_right:Fn where
 params:=["unit","times","of","count"]
 locals:=["due","is_right"]
 body:=[
  .assign (.var "due") (.call "_law_wrong" [(.var "times"),(.var "of")]),
  .assign (.var "is_right") (.and (.isn (.var "due")) (.cmp .eq (.comp (.sub (.var "of") (.var "one")) (.one "one") (.of (.attr (.var "unit") "entry")) Option.none) (.mklist (.range (.bcall "len" [(.attr (.var "unit") "entry")]))))),
  .assign (.var "is_right") (.and (.var "is_right") (.cmp .eq (.comp (.var "one") (.one "one") (.range (.attr (.var "unit") "count")) (some (.not (.cmp2 .le .lt (.int 0) (.sub (.var "of") (.var "one")) (.var "count"))))) (.list []))),
  .ret (.and (.cmp .eq (.call "wrong_pair" [(.var "unit"),(.var "of")]) (.var "due")) (.cmp .eq (.call "lives_apart" [(.var "unit"),(.call "Places" [(.var "of"),(.var "count")])]) (.var "is_right")))]
noncomputable def fn_law_are_places_right:Fn where
 params:=["unit","pairs","answer"]
 locals:=["wishes","of","ahead","own","source","target","one","taken","wished","lowest"]
 body:=[
  .assign (.tup [(.var "wishes"),(.var "of"),(.var "ahead")]) (.tup [(.comp (.list []) (.one "one") (.range (.attr (.var "unit") "count")) Option.none),(.attr (.var "answer") "of"),(.mklist (.of (.attr (.var "unit") "entry")))]),
  .fore (.one "own") (.of (.attr (.var "unit") "blocks")) [
   .ife (.cmp .eq (.sub (.attr (.var "own") "end") (.int 0)) (.str "goto")) [
    .fore (.many ["source","target"]) (.zip (.sub (.attr (.var "own") "end") (.int 2)) (.attr (.sub (.attr (.var "unit") "blocks") (.sub (.attr (.var "own") "end") (.int 1))) "params")) [
     .expr (.meth (.sub (.var "wishes") (.var "source")) "append" [(.var "target")]),
     .expr (.meth (.sub (.var "wishes") (.var "target")) "append" [(.var "source")])]] [
]],
  .fore (.one "one") (.of (.call "_law_order" [(.var "unit")])) [
   .assign (.var "taken") (.comp (.sub (.var "of") (.var "other")) (.one "other") (.of (.var "ahead")) (some (.cmp .inn (.tup [(.var "one"),(.var "other")]) (.var "pairs")))),
   .assign (.var "wished") (.comp (.sub (.var "of") (.var "other")) (.one "other") (.of (.sub (.var "wishes") (.var "one"))) (some (.and (.cmp .inn (.var "other") (.var "ahead")) (.cmp .nin (.sub (.var "of") (.var "other")) (.var "taken"))))),
   .assign (.var "lowest") (.sub (.comp (.var "place") (.one "place") (.range (.bin .add (.attr (.var "unit") "count") (.int 1))) (some (.cmp .nin (.var "place") (.var "taken")))) (.int 0)),
   .ife (.cmp .ne (.sub (.var "of") (.var "one")) (.sub (.bin .add (.var "wished") (.list [(.var "lowest")])) (.int 0))) [
    .ret (.bool false)] [
],
   .expr (.meth (.var "ahead") "append" [(.var "one")])],
  .ret (.cmp .eq (.attr (.var "answer") "count") (.bin .add (.int 1) (.bcall "max" [(.comp (.sub (.var "of") (.var "one")) (.one "one") (.range (.attr (.var "unit") "count")) Option.none)])))]
noncomputable def fn_law:Fn where
 params:=["script"]
 locals:=["deck","unit","times","many","pairs","apart","one","answer","alone","drawn","at","turned","of","count"]
 body:=[
  .assign (.var "deck") (.list [(.sto (.mklist (.of (.var "script"))) (.int 60)),(.int 0),(.bin .add (.int 5) (.bcall "sum" [(.comp (.bin .mod (.bcall "abs" [(.var "cell")]) (.int 9973)) (.one "cell") (.of (.sto (.var "script") (.int 60))) Option.none)]))]),
  .assign (.var "unit") (.call "_law_unit" [(.var "deck")]),
  .assign (.tup [(.var "times"),(.var "many")]) (.tup [(.call "_law_times" [(.var "unit")]),(.attr (.var "unit") "count")]),
  .assign (.tup [(.var "pairs"),(.var "apart")]) (.tup [(.call "_law_pairs" [(.var "times")]),(.call "apart_of" [(.var "unit")])]),
  .fore (.one "one") (.range (.var "many")) [
   .ife (.cmp .ne (.comp (.var "other") (.one "other") (.range (.var "many")) (some (.cmp .ne (.meth (.var "apart") "are_apart" [(.var "one"),(.var "other")]) (.cmp .inn (.tup [(.var "one"),(.var "other")]) (.var "pairs"))))) (.list [])) [
    .ret (.bool false)] [
]],
  .assign (.tup [(.var "answer"),(.var "alone")]) (.tup [(.call "places_of" [(.var "unit")]),(.call "plain_places" [(.var "unit")])]),
  .assign (.var "drawn") (.bcall "dict" [(.comp (.tup [(.var "one"),(.call "_law_draw" [(.var "deck"),(.int 7)])]) (.one "one") (.range (.var "many")) Option.none)]),
  .fore (.many ["at","one"]) (.enum (.attr (.var "unit") "entry")) [
   .assign (.sub (.var "drawn") (.var "one")) (.var "at")],
  .assign (.var "turned") (.bcall "dict" [(.attr (.var "answer") "of")]),
  .assign (.sub (.var "turned") (.call "_law_draw" [(.var "deck"),(.var "many")])) (.call "_law_draw" [(.var "deck"),(.bin .add (.attr (.var "answer") "count") (.int 1))]),
  .fore (.many ["of","count"]) (.of (.tup [(.tup [(.attr (.var "answer") "of"),(.attr (.var "answer") "count")]),(.tup [(.attr (.var "alone") "of"),(.attr (.var "alone") "count")]),(.tup [(.var "drawn"),(.int 7)]),(.tup [(.var "turned"),(.attr (.var "answer") "count")])])) [
   .ife (.not (.call "_law_is_told_right" [(.var "unit"),(.var "times"),(.var "of"),(.var "count")])) [
    .ret (.bool false)] [
]],
  .ife (.or (.not (.call "lives_apart" [(.var "unit"),(.var "answer")])) (.or (.not (.call "lives_apart" [(.var "unit"),(.var "alone")])) (.cmp .ne (.attr (.var "alone") "count") (.var "many")))) [
   .ret (.bool false)] [
],
  .ret (.call "_law_are_places_right" [(.var "unit"),(.var "pairs"),(.var "answer")])]
noncomputable def table:List (String×Fn):=[("operand_pairs",fn_operand_pairs),
 ("registers_read",fn_registers_read),
 ("registers_written",fn_registers_written),
 ("LowBlock.__init__",fn_LowBlock_init),
 ("LowUnit.__init__",fn_LowUnit_init),
 ("LowUnit.fresh",fn_LowUnit_fresh),
 ("end_reads",fn_end_reads),
 ("end_blocks",fn_end_blocks),
 ("mask_of",fn_mask_of),
 ("bits_of",fn_bits_of),
 ("is_in",fn_is_in),
 ("without",fn_without),
 ("live_at_end",fn_live_at_end),
 ("live_ahead",fn_live_ahead),
 ("live_behind",fn_live_behind),
 ("live_at_begin",fn_live_at_begin),
 ("begins_of",fn_begins_of),
 ("blocks_ahead",fn_blocks_ahead),
 ("Apart.__init__",fn_Apart_init),
 ("Apart.put",fn_Apart_put),
 ("Apart.are_apart",fn_Apart_are_apart),
 ("put_op",fn_put_op),
 ("apart_of",fn_apart_of),
 ("given_order",fn_given_order),
 ("wishes_of",fn_wishes_of),
 ("Places.__init__",fn_Places_init),
 ("taken_places",fn_taken_places),
 ("lowest_free",fn_lowest_free),
 ("chosen_place",fn_chosen_place),
 ("places_of",fn_places_of),
 ("plain_places",fn_plain_places),
 ("clash_in",fn_clash_in),
 ("op_clash",fn_op_clash),
 ("is_clobbered",fn_is_clobbered),
 ("wrong_pair",fn_wrong_pair),
 ("lives_apart",fn_lives_apart),
 ("_law_draw",fn_law_draw),
 ("_law_one",fn_law_one),
 ("_law_op",fn_law_op),
 ("_law_block",fn_law_block),
 ("_law_some",fn_law_some),
 ("_law_meeting",fn_law_meeting),
 ("_law_loop",fn_law_loop),
 ("_law_unit",fn_law_unit),
 ("_law_gives",fn_law_gives),
 ("_law_reads",fn_law_reads),
 ("_law_end_reads",fn_law_end_reads),
 ("_law_lives",fn_law_lives),
 ("_law_times",fn_law_times),
 ("_law_pairs",fn_law_pairs),
 ("_law_wrong",fn_law_wrong),
 ("_law_order",fn_law_order),
 ("_law_is_told_right",fn_law_is_told_right),
 ("_law_are_places_right",fn_law_are_places_right),
 ("law",fn_law)]
noncomputable def classes:List String:=["LowBlock","LowUnit","Apart","Places"]
noncomputable abbrev Cl(n:Nat):jt:=qj table classes n
noncomputable def fads:List (String×Addr):=[("operand_pairs",35),("registers_read",40),("registers_written",45),("end_reads",101),("end_blocks",108),("mask_of",115),("bits_of",122),("is_in",129),("without",136),("live_at_end",143),("live_ahead",150),("live_behind",157),("live_at_begin",164),("begins_of",169),("blocks_ahead",174),("put_op",216),("apart_of",223),("given_order",230),("wishes_of",235),("taken_places",263),("lowest_free",270),("chosen_place",277),("places_of",284),("plain_places",291),("clash_in",298),("op_clash",305),("is_clobbered",310),("wrong_pair",317),("lives_apart",324),("_law_draw",331),("_law_one",338),("_law_op",345),("_law_block",350),("_law_some",355),("_law_meeting",362),("_law_loop",369),("_law_unit",374),("_law_gives",379),("_law_reads",384),("_law_end_reads",391),("_law_lives",396),("_law_times",401),("_law_pairs",408),("_law_wrong",413),("_law_order",420),("_law_is_told_right",425),("_law_are_places_right",430),("law",435),("LowBlock.__init__",59),("LowUnit.__init__",80),("LowUnit.fresh",87),("Apart.__init__",188),("Apart.put",195),("Apart.are_apart",202),("Places.__init__",249)]
noncomputable def cads:List (String×Addr):=[("LowBlock",62),("LowUnit",90),("Apart",205),("Places",252)]
noncomputable def fa(f:String):Addr:=(fads.lookup f).getD 0
noncomputable def cl(c:String):Option Addr:=cads.lookup c
noncomputable def jds:Value->Bool
 |.type n=>n=="function"
 |_=>false
noncomputable def G1:Value->Bool
 |.none=>true
 |_=>false
noncomputable def jar(K:Frag)(a:Addr)(fn:Fn):Bool:=match K.lookup a with
 |some ⟨c,_,.func fd,_⟩=>jds c&&((match fd.body with | .stmts b=>J5 (fun x=>fd.scope.names.lookup x) fn.body b | _=>false)&&(decide (fd.scope.kind=.function)&&(!fd.scope.isGenerator&&(!fd.scope.isCoroutine&&(fd.closure.isEmpty &&
   (fd.globals==mainGlobals&&(fd.builtins==builtinsNs&&((fn.params.all fun x=>match fd.scope.names.lookup (Str.ofString x) with | some .local=>true | some .cell=>true | _=>false)&&((fd.scope.names.all fun p=>decide (p.2≠.free)) &&
   (decide fn.params.Nodup&&(codeIn K fd.code fd.qualname&&(fd.params.posonlyargs.isEmpty&&(fd.params.kwonlyargs.isEmpty&&(fd.params.vararg.isNone&&(fd.params.kwarg.isNone&&(G1 fd.defaults&&decide (fd.params.args.map (·.arg)=fn.params.map Str.ofString)))))))))))))))))
 |_=>false
noncomputable def Ym(v:Option (Option Value))(a:Addr):Bool:=match v with
 |some (some (.ref b))=>b==a
 |_=>false
noncomputable def YV(v:Option (Option Value))(n:String):Bool:=match v with
 |some (some (.builtin b))=>b==n
 |_=>false
noncomputable def Vl(v:Option (Option Value)):Bool:=match v with
 |some none=>true
 |_=>false
noncomputable def Z0(K:Frag)(c:String)(C:Addr):Bool:=Ym (nsIn K mainGlobals (Str.ofString c)) C&&(YV (findIn K (.ref C) "__getattribute__") "object.__getattribute__"&&(Vl (findIn K (.ref C) "__getattr__")&&(YV (findIn K (.ref C) "__setattr__") "object.__setattr__" &&
 (plainOver K C&&((clsIn K C).any (·.hasDict)&&(makesIn K C&&((attrNames.all fun a=>Vl (findIn K (.ref C) (Str.ofString a)))&&(keepIn K (.ref C)&&Ym (findIn K (.ref C) "__init__") (fa (c++".__init__"))))))))))
noncomputable def opEnts:List (String×Tok×Addr):=[("const",189,16),("move",192,17),("global",195,18),("setglobal",198,19),("define",201,20),("free",204,21),("closure",207,22),("fix",211,23),("prim",213,24),("jump",217,25),("branchfalse",219,26),("call",222,27),("give",226,28)]
noncomputable def QY(p:Params)(e:String×Tok×Addr):DictEntry:={ hash:=PyData.keyHash p (Str.ofString e.1),key:=.str (Str.ofString e.1) e.2.1,val:=.ref e.2.2 }
noncomputable def qW(p:Params):Obj:={ cls:=.type "dict",data:=.dict (opEnts.map (QY p)).toArray 13 }
noncomputable def vt:List String->List Value->Bool
 |[],[]=>true
 |x::xs,.str y _::ys=>y==Str.ofString x&&vt xs ys
 |_,_=>false
noncomputable def g7(K:Frag)(a:Addr)(t:List String):Bool:=match K.lookup a with
 |some ⟨.type n,_,.seq items _,_⟩=>n=="tuple"&&vt t items.toList
 |_=>false
noncomputable def OH(v:Option (Option Value))(x:String):Bool:=match v with
 |some (some (.str t _))=>t==Str.ofString x
 |_=>false
noncomputable def jgW(K:Frag):Bool:=gnames.all fun f=>classes.contains f||((table.lookup f).isSome&&Ym (nsIn K mainGlobals (Str.ofString f)) (fa f))
noncomputable def jgT(K:Frag):Bool:=cads.all fun e=>Z0 K e.1 e.2
noncomputable def jgh(K:Frag):Bool:=(gstrs.all fun e=>OH (nsIn K mainGlobals (Str.ofString e.1)) e.2)&&(Ym (nsIn K mainGlobals (Str.ofString "OPERANDS")) 15 &&
 (opTab.all fun e=>match opEnts.lookup e.1 with | some (_,a)=>g7 K a e.2&&decide (e.2.length<100) | none=>false))
noncomputable def jhx(K:Frag):Bool:=["len","abs","sum","any","max","tuple","dict","list","range","enumerate","zip"].all fun b=>Vl (nsIn K mainGlobals (Str.ofString b))
noncomputable def jeV(K:Frag):Bool:=(K.lookup mainGlobals).isSome&&(Ym (findIn K (.ref 90) (Str.ofString "fresh")) 87&&(Ym (findIn K (.ref 205) (Str.ofString "put")) 195&&(Ym (findIn K (.ref 205) (Str.ofString "are_apart")) 202&&Ym (nsIn K mainGlobals (Str.ofString "law")) 435)))
noncomputable def zw(K:Frag):Bool:=(table.all fun e=>jar K (fa e.1) e.2)&&(jgT K&&(jgW K&&(jgh K&&(jhx K&&jeV K))))
noncomputable def prog:Program:=PySem.Challenge.rw_rg0280_01.row.prog
def ou(w:World)(s:Shared):Prop:=∀ (K:Frag) (mg mb:Str->Option Value) (a:Addr) (vs:List Value) (xs:List Int),zw K=true->K.lookup 15=some (qW w.params)->K.In s.heap->s.heap.Ns mainGlobals mg->s.heap.Ns builtinsNs mb ->
 (∀ x:Str,x≠"__name__"->mb x=bootBuiltins x)->s.heap.NoLimit->s.heap.IsList a vs.toArray->IntsAre vs xs->xs.length≤63 ->
 codeAny (model prog w) callerA (.call (.ref 435) ⟨[.ref a],[]⟩) (fun r s'=>∃ h' tk,r=.ok (.ret (.bool true))/\s' = { s with heap:=h',toks:=tk }/\∀ b o,s.heap.get? b=some o->h'.get? b=some o) s
theorem jfg:Nonempty (World×Shared):=⟨⟨⟨fun _ _=>0,{ strHash:=fun _=>0,shareClass:=fun _=>0,mergeTok:=id,idOf:=fun _=>0,idOfShared:=fun _ _=>0,followText:=fun _=>false,idOfImm:=fun _=>0 }⟩,{}⟩⟩
noncomputable def wsx:World×Shared:=@Classical.epsilon _ jfg fun p=>¬ ou p.1 p.2
noncomputable def w:World:=wsx.1
noncomputable def h₀:Heap:=wsx.2.heap
theorem all_good(h:ou w wsx.2)(w':World)(s:Shared):ou w' s:=Classical.byContradiction fun n=>Classical.epsilon_spec (p:=fun p:World×Shared=>¬ ou p.1 p.2) ⟨(w',s),n⟩ h
structure Pm where
 dead:Nat->Prop
 off:∀ a,dead a->h₀.get? a=none
theorem no{α:Type}{G:Prop}{x:Option α}{a:α}(h:x=none)(h':x=some a):G:=by rw [h] at h';cases h'
noncomputable def Pw{α β:Type}(R:α->β->Prop):List α->List β->Prop
 |[],es=>es=[]
 |x::xs,es=>∃ e r,es=e::r/\R x e/\Pw R xs r
section
variable {α β:Type}{R R':α->β->Prop}
theorem Pw.nil:Pw R [] []:=rfl
theorem Pw.cons{x:α}{e:β}{xs es}(h:R x e)(t:Pw R xs es):Pw R (x::xs) (e::es):=⟨e,es,rfl,h,t⟩
theorem Pw.inv{x:α}{xs}{es:List β}{G:List β->Prop}(q:Pw R (x::xs) es)(k:∀ e r,R x e->Pw R xs r->G (e::r)):G es:=by
 obtain ⟨e,r,z,h,t⟩:=q
 rw [z];exact k e r h t
theorem Pw.inv0{es:List β}{G:List β->Prop}(q:Pw R [] es)(k:G []):G es:=Eq.mpr (congrArg G q) k
theorem Pw.ind{G:List α->List β->Prop}(h0:G [] [])(h1:∀ x e xs es,R x e->Pw R xs es->G xs es->G (x::xs) (e::es)){xs:List α}{es:List β}(q:Pw R xs es):G xs es:=by
 induction xs generalizing es with
 |nil=>exact q.inv0 h0
 |cons x xs ih=>exact q.inv fun e r h t=>h1 x e xs r h t (ih t)
theorem Pw.map(f:∀ x e,R x e->R' x e){xs es}(q:Pw R xs es):Pw R' xs es:=q.ind (G:=Pw R') .nil fun x e xs es h _ t=>t.cons (f x e h)
theorem Pw.mem{xs:List α}{es:List β}(q:Pw R xs es):Pw (fun x e=>R x e/\e∈es) xs es :=
 q.ind (G:=fun xs es=>Pw (fun x e=>R x e/\e∈es) xs es) .nil fun x e xs es h _ t=>(t.map fun _ _ z=>⟨z.1,List.mem_cons_of_mem _ z.2⟩).cons ⟨h,List.mem_cons_self ..⟩
theorem Pw.length{xs:List α}{es:List β}(q:Pw R xs es):xs.length=es.length:=by
 refine q.ind (G:=fun (xs:List α) (es:List β)=>xs.length=es.length) rfl ?_
 intro x e xs es _ _ t;exact congrArg Nat.succ t
theorem Pw.get{xs:List α}{es:List β}(q:Pw R xs es):∀ (i:Nat) {x},xs[i]? = some x->∃ v,es[i]? = some v/\R x v:=by
 refine q.ind (G:=fun xs es=>∀ (i:Nat) {x},xs[i]? = some x->∃ v,es[i]? = some v/\R x v) (fun i x e=>?_) fun x e xs es h _ t i y z=>?_
 ·cases e
 ·cases i with
  |zero=>cases z;exact ⟨e,rfl,h⟩
  |succ i=>exact t i z
theorem Pw.append{xs:List α}{es:List β}{ys us}(q:Pw R xs es)(p:Pw R ys us):Pw R (xs++ys) (es++us):=q.ind (G:=fun xs es=>Pw R (xs++ys) (es++us)) p fun _ _ _ _ h _ t=>t.cons h
theorem Pw.take{xs:List α}{es:List β}(n:Nat)(q:Pw R xs es):Pw R (xs.take n) (es.take n):=by
 revert n
 refine q.ind (G:=fun xs es=>∀ n,Pw R (xs.take n) (es.take n)) (fun n=>?_) fun x e xs es h _ t n=>?_
 ·cases n<;>exact .nil
 ·cases n with
  |zero=>exact .nil
  |succ n=>exact (t n).cons h
theorem Pw.drop{xs:List α}{es:List β}(n:Nat)(q:Pw R xs es):Pw R (xs.drop n) (es.drop n):=by
 revert n
 refine q.ind (G:=fun xs es=>∀ n,Pw R (xs.drop n) (es.drop n)) (fun n=>?_) fun x e xs es h q t n=>?_
 ·cases n<;>exact .nil
 ·cases n with
  |zero=>exact q.cons h
  |succ n=>exact t n
theorem Pw.reverse{xs:List α}{es:List β}(q:Pw R xs es):Pw R xs.reverse es.reverse:=q.ind (G:=fun xs es=>Pw R xs.reverse es.reverse) .nil fun _ _ _ _ h _ t=>by
 rw [List.reverse_cons,List.reverse_cons];exact t.append (.cons h .nil)
theorem Pw.set{xs:List α}{es:List β}(n:Nat){x v}(q:Pw R xs es)(k:R x v):Pw R (xs.set n x) (es.set n v):=by
 revert n
 refine q.ind (G:=fun xs es=>∀ n,Pw R (xs.set n x) (es.set n v)) (fun n=>.nil) fun y e xs es h q t n=>?_
 cases n with
 |zero=>exact q.cons k
 |succ n=>exact (t n).cons h
theorem Pw.replicate{x:α}{v:β}(k:R x v)(n:Nat):Pw R (List.replicate n x) (List.replicate n v):=by
 induction n with
 |zero=>exact .nil
 |succ n ih=>exact ih.cons k
theorem Pw.unsnoc{xs:List α}{x:α}{es:List β}(q:Pw R (xs++[x]) es):∃ us v,es=us++[v]/\Pw R xs us/\R x v:=by
 induction xs generalizing es with
 |nil=>obtain ⟨e,r,z,h,t⟩:=q;exact ⟨[],e,by rw [z,show r=[] from t];rfl,.nil,h⟩
 |cons y xs ih =>
  obtain ⟨e,r,z,h,t⟩:=q
  obtain ⟨us,v,y,a,b⟩:=ih t
  exact ⟨e::us,v,by rw [z,y];rfl,a.cons h,b⟩
end
inductive jgX (P:Pm) (h:Heap) (n:Nat) (k:List Value->Prop) (v:Value):Prop
 | mk (a:Addr) (ys:Array Value) (e:v=.ref a) (d:¬ P.dead a/\n≤jb) (t:h.IsTuple a ys) (v:k ys.toList)
inductive VCl (h:Heap) (xs:List Int) (v:Value):Prop
 | mk (a:Addr) (vs:Array Value) (e:v=.ref a) (l:h.IsList a vs) (i:IntsAre vs.toList xs) (b:h₀.IsList a vs) (n:xs.length<100)
mutual
noncomputable def V(P:Pm)(h:Heap):MV->Value->Prop
 |.none,v=>v=.none
 |.bool b,v=>v=.bool b
 |.int i,v=>∃ t,v=.int i t
 |.str s,v=>∃ t,v=.str (Str.ofString s) t
 |.tup xs,v=>jgX P h xs.length (Vs P h xs) v
 |.ref a,v=>v=.ref a
 |.clist xs,v=>VCl h xs v
noncomputable def Vs(P:Pm)(h:Heap):List MV->List Value->Prop
 |[],vs=>vs=[]
 |x::xs,vs=>∃ v r,vs=v::r/\V P h x v/\Vs P h xs r
end
theorem xZ{P:Pm}{h:Heap}:∀ {xs vs},Vs P h xs vs->Pw (V P h) xs vs:=fun {xs}=>by
 induction xs with
 |nil=>exact fun q=>q
 |cons x xs ih=>exact fun ⟨v,r,e,a,b⟩=>⟨v,r,e,a,ih b⟩
theorem qS{P:Pm}{h:Heap}:∀ {xs vs},Pw (V P h) xs vs->Vs P h xs vs:=fun {xs}=>by
 induction xs with
 |nil=>exact fun q=>q
 |cons x xs ih=>exact fun ⟨v,r,e,a,b⟩=>⟨v,r,e,a,ih b⟩
section
variable {P:Pm}{h:Heap}
theorem Vs.length{xs vs}(q:Vs P h xs vs):xs.length=vs.length:=(xZ q).length
theorem Vs.get{xs vs}(i:Nat){x}(q:Vs P h xs vs)(e:xs[i]? = some x):∃ v,vs[i]? = some v/\V P h x v:=(xZ q).get i e
theorem Vs.append{xs vs ys us}(q:Vs P h xs vs)(k:Vs P h ys us):Vs P h (xs++ys) (vs++us):=qS ((xZ q).append (xZ k))
theorem Vs.snoc{xs vs x v}(a:Vs P h xs vs)(b:V P h x v):Vs P h (xs++[x]) (vs++[v]):=a.append ⟨v,[],rfl,b,rfl⟩
theorem Vs.take{xs vs}(n:Nat)(q:Vs P h xs vs):Vs P h (xs.take n) (vs.take n):=qS ((xZ q).take n)
theorem Vs.drop{xs vs}(n:Nat)(q:Vs P h xs vs):Vs P h (xs.drop n) (vs.drop n):=qS ((xZ q).drop n)
theorem Vs.reverse{xs vs}(q:Vs P h xs vs):Vs P h xs.reverse vs.reverse:=qS (xZ q).reverse
theorem Vs.set{xs vs}(n:Nat){x v}(q:Vs P h xs vs)(k:V P h x v):Vs P h (xs.set n x) (vs.set n v):=qS ((xZ q).set n k)
theorem Vs.replicate{x v}(k:V P h x v)(n:Nat):Vs P h (List.replicate n x) (List.replicate n v):=qS (.replicate k n)
theorem Vs.unsnoc{xs x vs}(q:Vs P h (xs++[x]) vs):∃ us v,vs=us++[v]/\Vs P h xs us/\V P h x v:=(xZ q).unsnoc.elim fun us ⟨v,e,a,b⟩=>⟨us,v,e,qS a,b⟩
theorem Vs.ints{xs:List Int}{vs}:Vs P h (xs.map .int) vs↔IntsAre vs xs:=by
 refine ⟨fun q=>?_,fun q=>?_⟩
 ·induction xs generalizing vs with
  |nil=>rw [show vs=[] from q];exact .nil
  |cons x xs ih =>
   obtain ⟨e,r,z,⟨u,y⟩,t⟩:=q
   rw [z,y];exact .cons _ _ (ih t)
 ·induction q with
  |nil=>rfl
  |cons _ _ _ ih=>exact ⟨_,_,rfl,⟨_,rfl⟩,ih⟩
end
def Mono(P:Pm)(h h':Heap):Prop:=∀ a o,h.get? a=some o->((o.cls=.type "tuple"/\¬ P.dead a)\/h₀.get? a≠none)->h'.get? a=some o
def Less(P P':Pm)(h:Heap):Prop:=∀ a o,h.get? a=some o->¬ P.dead a->¬ P'.dead a
section
variable {P P':Pm}{h h':Heap}
theorem Less.refl:Less P P h:=fun _ _ _ q=>q
theorem V.map(m:Mono P h h')(l:Less P P' h)(x:MV)(v:Value)(q:V P h x v):V P' h' x v:=by
 revert v
 refine MV.rec (motive_1:=fun x=>∀ v,V P h x v->V P' h' x v) (motive_2:=fun xs=>∀ vs,Vs P h xs vs->Vs P' h' xs vs) (fun _ e=>e) (fun _ _ e=>e) (fun _ _ e=>e) (fun _ _ e=>e) (fun xs ih v q=>?_) (fun _ _ e=>e) (fun xs v q=>?_) (fun _ e=>e) (fun x xs i j vs q=>?_) x
 ·obtain ⟨a,ys,e,d,⟨o,ho,hc,hn⟩,k⟩:=q
  exact ⟨a,ys,e,⟨l a o ho d.1,d.2⟩,⟨o,m a o ho (.inl ⟨hc,d.1⟩),hc,hn⟩,ih _ k⟩
 ·obtain ⟨a,vs,e,⟨o,ho,z⟩,i,⟨o',ho',z'⟩,n⟩:=q
  exact ⟨a,vs,e,⟨o,m a o ho (.inr fun y=>nomatch ho'.symm.trans y),z⟩,i,⟨o',ho',z'⟩,n⟩
 ·obtain ⟨v,r,e,a,b⟩:=q
  exact ⟨v,r,e,i v a,j r b⟩
theorem Vs.map(m:Mono P h h')(l:Less P P' h)(xs:List MV)(vs:List Value)(q:Vs P h xs vs):Vs P' h' xs vs:=qS ((xZ q).map fun x e a=>a.map m l x e)
theorem V.mono(m:Mono P h h')(x:MV)(v:Value)(q:V P h x v):V P h' x v:=q.map m Less.refl x v
theorem Vs.mono(m:Mono P h h')(xs:List MV)(vs:List Value)(q:Vs P h xs vs):Vs P h' xs vs:=q.map m Less.refl xs vs
end
def FsAre(P:Pm)(h:Heap):List (String×MV)->List DictEntry->Prop:=Pw fun f e=>(∃ t,e.key=.str (Str.ofString f.1) t)/\V P h f.2 e.val
def KvsAre(P:Pm)(h:Heap):List (Int×MV)->List (Int×Value)->Prop:=Pw fun f e=>e.1=f.1/\V P h f.2 e.2
def KksAre(P:Pm)(h:Heap):List ((Int×Int)×MV)->List (List Int×Addr×Value)->Prop:=Pw fun f e=>e.1=[f.1.1,f.1.2]/\¬ P.dead e.2.1/\V P h f.2 e.2.2
section
variable (P:Pm)
noncomputable abbrev jL(ys:Array Value)(n:Nat):Obj:={ cls:=.type "list",data:=.seq ys n }
noncomputable abbrev yy(es:Array DictEntry)(n:Nat):Obj:={ cls:=.type "dict",data:=.dict es n }
inductive jhz (h:Heap) (a:Nat) (xs:List MV):Prop
 | mk (ys:Array Value) (n:Nat) (e:h.get? a=some (jL ys n)) (l:xs.length≤jb) (v:Vs P h xs ys.toList)
inductive OW (h:Heap) (a:Nat) (es:List (Int×MV)):Prop
 | mk (kvs:List (Int×Value)) (d:h.DictOf (intKind prog w) a kvs) (l:es.length≤jb/\a≠sysModules) (q:KvsAre P h es kvs)
inductive jhl (h:Heap) (a:Nat) (es:List ((Int×Int)×MV)):Prop
 | mk (xs:List (List Int×Addr×Value)) (d:h.DictOfH (tupleKind (intKind prog w)) a xs) (l:es.length≤jb/\a≠sysModules) (q:KksAre P h es xs)
inductive jhI (h:Heap) (a:Nat) (c:String) (d:Nat) (fs:List (String×MV)):Prop
 | mk (C:Addr) (es:Array DictEntry) (n:Nat) (hc:cl c=some C) (e:h.get? a=some (instObj C d)) (e2:h.get? d=some (yy es n)) (q:FsAre P h fs es.toList)
def Ob(h:Heap)(a:Nat):Prop:=∃ ob,h.get? a=some ob/\ob.cls≠.type "tuple"
noncomputable def Rep(h:Heap)(a:Nat):MObj->Prop
 |.list xs=>jhz P h a xs
 |.idict es=>OW P h a es
 |.fdict es=>OW P h a es
 |.tdict es=>jhl P h a es
 |.inst c d fs=>jhI P h a c d fs
 |.own _=>Ob h a
def Wn(st:St)(a:Nat):Prop:=∃ o,st a=some o/\o.fz=false
structure Sim(st:St)(h:Heap):Prop where
 rep:∀ a o,st a=some o->Rep P h a o
 link:∀ a o d,st a=some o->o.dct=some d->st d=some (.own a)
 below:∀ a o,st a=some o->h₀.get? a=none
 keep:∀ a o,h₀.get? a=some o->h.get? a=some o
 dead:∀ a,P.dead a->(∃ o,h.get? a=some o)/\st a=none
end
structure Go(st:St)(s:Shared)(st':St)(s':Shared):Prop where
 same:∃ h' tk,s' = { s with heap:=h',toks:=tk }
 keep:∀ a o,s.heap.get? a=some o->¬ Wn st a->s'.heap.get? a=some o
 grow:∀ a,Wn st' a->Wn st a\/s.heap.get? a=none
theorem Wn.of{st:St}{a:Nat}{o:MObj}(e:st a=some o)(f:o.fz=false):Wn st a:=⟨o,e,f⟩
theorem Wn.no{st:St}{a:Nat}(e:st a=none):¬ Wn st a:=fun ⟨_,q,_⟩=>nomatch e.symm.trans q
theorem Go.refl{st:St}{s:Shared}:Go st s st s:=⟨⟨_,_,rfl⟩,fun _ _ e _=>e,fun _ h=>.inl h⟩
theorem Go.toks{st:St}{s:Shared}(tk:Nat):Go st s st { s with toks:=tk }:=⟨⟨_,_,rfl⟩,fun _ _ e _=>e,fun _ h=>.inl h⟩
theorem Go.back{st:St}{s s':Shared}{st':St}(x:Go st s st' s'){a:Nat}(n:¬ Wn st a)(e:s'.heap.get? a=none):s.heap.get? a=none:=by
 cases z:s.heap.get? a with
 |none=>rfl
 |some o=>exact nomatch (x.keep a o z n).symm.trans e
theorem Go.trans{st st' st'':St}{s s' s'':Shared}(x:Go st s st' s')(y:Go st' s' st'' s''):Go st s st'' s'':=by
 refine ⟨?_,fun a o e n=>y.keep a o (x.keep a o e n) fun hw=>(x.grow a hw).elim n fun h=>no h e,fun a hw=>(y.grow a hw).elim (x.grow a) fun h=>Classical.byCases .inl fun n=>.inr (x.back n h)⟩
 obtain ⟨h1,t1,z1⟩:=x.same
 obtain ⟨h2,t2,z2⟩:=y.same
 exact ⟨h2,t2,by rw [z2,z1]⟩
theorem yG{st:St}{a b:Nat}{o ob:MObj}(e:st.put a o b=some ob){G:Prop}(k:b=a->ob=o->G)(l:b≠a->st b=some ob->G):G:=by
 unfold St.put at e
 by_cases q:b=a
 ·rw [if_pos q] at e;exact k q (Option.some.inj e).symm
 ·rw [if_neg q] at e;exact l q e
theorem Oy{st:St}{a:Nat}{o:MObj}:st.put a o a=some o:=if_pos rfl
theorem ye{st:St}{a b:Nat}{o:MObj}(n:b≠a):st.put a o b=st b:=if_neg n
theorem zo{st:St}{a b:Nat}{o:MObj}(q:Wn (st.put a o) b):b=a\/Wn st b:=q.elim fun ob e=>yG e.1 (fun h _=>.inl h) fun _ z=>.inr ⟨ob,z,e.2⟩
theorem gO{st:St}{a b:Nat}{o o':MObj}(e:st a=some o')(z:o'.fz=false)(q:Wn (st.put a o) b):Wn st b:=(zo q).elim (fun h=>h▸.of e z) id
section
variable {P P':Pm}{st:St}{h h':Heap}
theorem Rep.ob{a:Nat}{o:MObj}(r:Rep P h a o):Ob h a:=by
 cases o with
 |list xs=>obtain ⟨ys,n,e,_⟩:=r;exact ⟨_,e,by simp⟩
 |idict es=>obtain ⟨kvs,⟨o,es,ep,e,hx,_⟩,_⟩:=r;exact ⟨_,e,by rw [hx.1];simp⟩
 |fdict es=>obtain ⟨kvs,⟨o,es,ep,e,hx,_⟩,_⟩:=r;exact ⟨_,e,by rw [hx.1];simp⟩
 |tdict es=>obtain ⟨kvs,⟨o,es,ep,e,hx,_⟩,_⟩:=r;exact ⟨_,e,by rw [hx.1];simp⟩
 |inst c d fs=>obtain ⟨C,es,n,_,e,_⟩:=r;exact ⟨_,e,by simp⟩
 |own a=>exact r
theorem Sim.has(S:Sim P st h){a:Nat}{o:MObj}(e:st a=some o):Ob h a:=(S.rep a o e).ob
theorem Sim.st_none(S:Sim P st h){a:Nat}(e:h.get? a=none):st a=none:=by
 cases q:st a with
 |none=>rfl
 |some o=>obtain ⟨_,z,_⟩:=S.has q;exact nomatch e.symm.trans z
theorem Sim.fresh(S:Sim P st h){a:Nat}(e:h.get? a=none):¬ Wn st a:=Wn.no (S.st_none e)
theorem Sim.off(S:Sim P st h){a:Nat}(e:h.get? a=none):h₀.get? a=none:=by
 cases q:h₀.get? a with
 |none=>rfl
 |some o=>exact nomatch e.symm.trans (S.keep a o q)
theorem Sim.mono_of(S:Sim P st h)(k:∀ a o,h.get? a=some o->st a=none->h'.get? a=some o):Mono P h h':=by
 intro a o e q
 refine k a o e ?_
 cases z:st a with
 |none=>rfl
 |some ob=>exact q.elim (fun q=>by obtain ⟨o2,z,n⟩:=S.has z;cases e.symm.trans z;exact (n q.1).elim) fun q=>(q (S.below a ob z)).elim
theorem Sim.mono{st':St}{s s':Shared}(S:Sim P st s.heap)(g:Go st s st' s'):Mono P s.heap s'.heap:=S.mono_of fun a o e n=>g.keep a o e (Wn.no n)
theorem FsAre.map(m:Mono P h h')(l:Less P P' h){fs es}(q:FsAre P h fs es):FsAre P' h' fs es:=Pw.map (fun _ _ z=>⟨z.1,z.2.map m l _ _⟩) q
theorem KvsAre.map(m:Mono P h h')(l:Less P P' h){fs es}(q:KvsAre P h fs es):KvsAre P' h' fs es:=Pw.map (fun _ _ z=>⟨z.1,z.2.map m l _ _⟩) q
theorem FsAre.mono(m:Mono P h h'){fs es}(q:FsAre P h fs es):FsAre P h' fs es:=q.map m .refl
theorem KvsAre.mono(m:Mono P h h'){fs es}(q:KvsAre P h fs es):KvsAre P h' fs es:=q.map m .refl
theorem KksAre.map(m:Mono P h h')(l:Less P P' h){fs es}(t:∀ x∈es,∃ o,h.get? x.2.1=some o)(q:KksAre P h fs es):KksAre P' h' fs es :=
 Pw.map (fun _ e z=>⟨z.1.1,(t e z.2).elim fun o ho=>l _ o ho z.1.2.1,z.1.2.2.map m l _ _⟩) (Pw.mem q)
theorem KksAre.mono(m:Mono P h h'){fs es}(q:KksAre P h fs es):KksAre P h' fs es:=Pw.map (fun _ _ z=>⟨z.1,z.2.1,z.2.2.mono m _ _⟩) q
theorem KksAre.alive{fs es}(q:KksAre P h fs es):∀ x∈es,¬ P.dead x.2.1:=by
 refine Pw.ind (G:=fun _ es=>∀ x∈es,¬ P.dead x.2.1) (fun _ z=>nomatch z) ?_ q
 intro _ e _ es z _ i x hx
 exact (List.mem_cons.mp hx).elim (fun y=>y▸z.2.1) (i x)
theorem Rep.map(m:Mono P h h')(l:Less P P' h){a:Nat}{o:MObj}(ha:∀ ob,h.get? a=some ob->h'.get? a=some ob)(hd:∀ d,o.dct=some d->∀ ob,h.get? d=some ob->h'.get? d=some ob)(r:Rep P h a o):Rep P' h' a o:=by
 cases o with
 |list xs=>obtain ⟨ys,n,e,z,v⟩:=r;exact ⟨ys,n,ha _ e,z,v.map m l⟩
 |idict es=>obtain ⟨kvs,⟨o,es',ep,e,hx⟩,z,q⟩:=r;exact ⟨kvs,⟨o,es',ep,ha _ e,hx⟩,z,q.map m l⟩
 |fdict es=>obtain ⟨kvs,⟨o,es',ep,e,hx⟩,z,q⟩:=r;exact ⟨kvs,⟨o,es',ep,ha _ e,hx⟩,z,q.map m l⟩
 |tdict es =>
  obtain ⟨xs,⟨o,es',ep,e,x1,x2,x3,x4,x5⟩,z,q⟩:=r
  refine ⟨xs,⟨o,es',ep,ha _ e,x1,x2,x3,fun x hx=>?_,x5⟩,z,q.map m l fun x hx=>(x4 x hx).elim fun o y=>⟨o,y.elim fun _ y=>y.elim fun _ y=>y.1⟩⟩
  obtain ⟨o2,its,n2,a1,a2,a3⟩:=x4 x hx
  exact ⟨o2,its,n2,m _ _ a1 (.inl ⟨a2,q.alive x hx⟩),a2,a3⟩
 |inst c d fs=>obtain ⟨C,es,n,hc,e,e2,q⟩:=r;exact ⟨C,es,n,hc,ha _ e,hd d rfl _ e2,q.map m l⟩
 |own b=>obtain ⟨ob,e,n⟩:=r;exact ⟨ob,ha _ e,n⟩
theorem Sim.keeps(S:Sim P st h)(k:∀ a o,h.get? a=some o->h'.get? a=some o):Sim P st h' where
 rep a o e:=(S.rep a o e).map (fun a o e _=>k a o e) .refl (k _) fun _ _=>k _
 link:=S.link
 below:=S.below
 keep a o e:=k a o (S.keep a o e)
 dead a q:=⟨(S.dead a q).1.imp fun o e=>k a o e,(S.dead a q).2⟩
theorem Sim.put(S:Sim P st h){a x:Nat}{o o':MObj}(e:st a=some o')(hi:o.dct=none\/o.dct=o'.dct)(hw:o'.isOwn=false)(hx:x=a\/o'.dct=some x)
  (k:∀ b ob,b≠x->h.get? b=some ob->h'.get? b=some ob) (w:Ob h' x) (r:Rep P h' a o):Sim P (st.put a o) h':=by
 have hs:∃ ox,st x=some ox:=hx.elim (fun q=>⟨o',q▸e⟩) fun q=>⟨_,S.link a o' x e q⟩
 have m:Mono P h h':=S.mono_of fun b ob z n=>k b ob (fun q=>by obtain ⟨_,y⟩:=hs;rw [q,y] at n;cases n) z
 have nown:∀ c,st a≠some (.own c):=fun c q=>by cases e.symm.trans q;cases hw
 have keep:∀ d c,st d=some (.own c)->st.put a o d=some (.own c):=fun d c l=>(ye fun y=>by rw [y] at l;exact nown c l).trans l
 have old:∀ b ob,st.put a o b=some ob->∃ o2,st b=some o2:=fun b ob q=>yG q (fun q _=>⟨_,q▸e⟩) fun _ q=>⟨_,q⟩
 refine ⟨fun b ob hb=>yG hb (fun q q'=>by rw [q,q'];exact r) fun n z=>?_,fun b ob d hb hd=>?_,fun b ob hb=>(old b ob hb).elim fun o2 z=>S.below b o2 z,fun b ob z=>k b ob (fun q=>?_) (S.keep b ob z),fun b hb=>⟨?_,?_⟩⟩
 ·by_cases q:b=x
  ·subst q
   have q:=hx.elim (fun q=>absurd q n) fun q=>S.link a o' b e q
   cases q.symm.trans z
   exact w
  ·refine (S.rep b ob z).map m .refl (fun ob' y=>k _ _ q y) fun d hd ob' y=>k _ _ (fun q'=>?_) y
   have l:=S.link b ob d z hd
   rw [q'] at l
   refine hx.elim (fun y=>?_) fun y=>by cases l.symm.trans (S.link a o' x e y);exact n rfl
   rw [y] at l;exact nown b l
 ·refine yG hb (fun q q'=>?_) fun n z=>?_
  ·rw [q'] at hd
   have l:=S.link a o' d e (hi.elim (fun y=>nomatch y.symm.trans hd) fun y=>y.symm.trans hd)
   rw [q];exact keep d a l
  ·exact keep d b (S.link b ob d z hd)
 ·obtain ⟨ox,y⟩:=hs
  rw [q] at z;exact nomatch (S.below x ox y).symm.trans z
 ·obtain ⟨ob,z⟩:=(S.dead b hb).1
  by_cases q:b=x
  ·rw [q];exact w.elim fun o2 y=>⟨o2,y.1⟩
  ·exact ⟨ob,k _ _ q z⟩
 ·have l:=(S.dead b hb).2
  exact (ye fun y=>by rw [y] at l;cases e.symm.trans l).trans l
theorem Sim.new(S:Sim P st h){a:Nat}{o:MObj}(e:h.get? a=none)(k:∀ b ob,h.get? b=some ob->h'.get? b=some ob)(r:Rep P h' a o)(hi:∀ d,o.dct=some d->st d=some (.own a)):Sim P (st.put a o) h':=by
 have S':=S.keeps k
 have n:=S.st_none e
 have keep:∀ b ob,st b=some ob->st.put a o b=some ob:=fun b ob z=>(ye fun y=>by rw [y] at z;cases n.symm.trans z).trans z
 refine ⟨fun b ob hb=>yG hb (fun q q'=>by rw [q,q'];exact r) fun _ z=>S'.rep b ob z,fun b ob d hb hd=>?_,fun b ob hb=>yG hb (fun q _=>q▸S.off e) fun _ z=>S.below b ob z,S'.keep,fun b hb=>⟨(S'.dead b hb).1,?_⟩⟩
 ·refine yG hb (fun q q'=>?_) fun _ z=>?_
  ·rw [q'] at hd;rw [q];exact keep d _ (hi d hd)
  ·exact keep d _ (S.link b ob d z hd)
 ·obtain ⟨⟨ox,z⟩,l⟩:=S.dead b hb
  exact (ye fun y=>by rw [y] at z;cases e.symm.trans z).trans l
theorem Sim.alloc(S:Sim P st h){a:Nat}{o:MObj}(e:h.get? a=none)(k:∀ b ob,h.get? b=some ob->h'.get? b=some ob)(r:Rep P h' a o)(hi:o.dct=none:=by rfl):Sim P (st.put a o) h':=S.new e k r fun _ q=>nomatch hi.symm.trans q
theorem Go.alloc{s:Shared}{tk:Nat}{a:Nat}{o:MObj}(e:s.heap.get? a=none)(k:∀ b ob,s.heap.get? b=some ob->h'.get? b=some ob):Go st s (st.put a o) { s with heap:=h',toks:=tk } :=
 ⟨⟨_,_,rfl⟩,fun b ob z _=>k b ob z,fun b hb=>(zo hb).elim (fun q=>.inr (q▸e)) .inl⟩
theorem Go.put{s:Shared}{tk:Nat}{a x:Nat}{o o':MObj}(e:st a=some o')(hx:Wn st x)(k:∀ b ob,b≠x->s.heap.get? b=some ob->h'.get? b=some ob)(hz:o'.fz=false:=by rfl):Go st s (st.put a o) { s with heap:=h',toks:=tk } :=
 ⟨⟨_,_,rfl⟩,fun b ob z nw=>k b ob (fun q=>nw (q▸hx)) z,fun b hb=>.inl (gO e hz hb)⟩
end
inductive Post (P:Pm) (st:St) (s:Shared) (K:MV->St->Prop) (v:Value) (s':Shared):Prop
 | mk (mv:MV) (st':St) (k:K mv st') (h:V P s'.heap mv v) (S:Sim P st' s'.heap) (g:Go st s st' s')
inductive OkB (K:Bool->Prop) (s:Shared) (v:Value) (s':Shared):Prop
 | mk (r:Bool) (tk:Nat) (e:v=.bool r) (k:K r) (h:s' = { s with toks:=tk })
inductive OkV (P:Pm) (K:MV->Prop) (s:Shared) (v:Value) (s':Shared):Prop
 | mk (mv:MV) (tk:Nat) (h:V P s.heap mv v) (k:K mv) (e:s' = { s with toks:=tk })
inductive OkS (P:Pm) (Q:St->Prop) (st:St) (s:Shared) (u:Unit) (s':Shared):Prop
 | mk (st':St) (k:Q st') (S:Sim P st' s'.heap) (g:Go st s st' s')
def NoE(_:Value)(_:Shared):Prop:=False
section
variable {P:Pm}{A:Around}{s:Shared}{st:St}
theorem Post.of{K:MV->St->Prop}{mv:MV}{v:Value}(S:Sim P st s.heap)(k:K mv st)(h:V P s.heap mv v):Post P st s K v s :=
 ⟨mv,st,k,h,S,Go.refl⟩
theorem Post.tok{K:MV->St->Prop}{mv:MV}{v:Value}{tk:Nat}(S:Sim P st s.heap)(k:K mv st)(h:V P s.heap mv v):Post P st s K v { s with toks:=tk } :=
 ⟨mv,st,k,h,S,Go.toks tk⟩
theorem Post.go{st₁:St}{s₁ s₂:Shared}{K:MV->St->Prop}{v:Value}(g:Go st s st₁ s₁)(p:Post P st₁ s₁ K v s₂):Post P st s K v s₂:=by
 obtain ⟨mv,st',k,h,S,g'⟩:=p
 exact ⟨mv,st',k,h,S,g.trans g'⟩
theorem yW{h:Heap}{i:Int}{v:Value}{G:Value->Prop}(q:V P h (.int i) v)(k:∀ t,G (.int i t)):G v:=Exists.elim q fun t e=>Eq.mpr (congrArg G e) (k t)
theorem jab{h:Heap}{i:String}{v:Value}{G:Value->Prop}(q:V P h (.str i) v)(k:∀ t,G (.str (Str.ofString i) t)):G v:=Exists.elim q fun t e=>Eq.mpr (congrArg G e) (k t)
theorem vIs{v u:Value}{G:Value->Prop}(q:v=u)(k:G u):G v:=Eq.mpr (congrArg G q) k
inductive jgg (P:Pm) (h:Heap) (r:Nat) (xs:List MV):Prop
 | mk (us:Array Value) (n:Nat) (e:h.get? r=some (jL us n)) (l:xs.length≤jb) (v:Vs P h xs us.toList) (z:xs.length=us.size) (i:h.IsList r us)
theorem Sim.lst{h:Heap}(S:Sim P st h){r:Nat}{xs:List MV}(e:st r=some (.list xs)):jgg P h r xs:=by
 obtain ⟨us,n,e,l,v⟩:=S.rep _ _ e
 exact ⟨us,n,e,l,v,v.length.trans Array.length_toList,⟨_,e,rfl,_,rfl⟩⟩
theorem Sim.monoK{h h':Heap}(S:Sim P st h)(kp:∀ b ob,h.get? b=some ob->h'.get? b=some ob):Mono P h h':=fun b ob e _=>kp b ob e
theorem jf(h:Heap)(o:Obj):∀ b ob,h.get? b=some ob->(h.push o).get? b=some ob:=fun _ _ e=>Heap.get?_push_of_some _ e
theorem j8(h:Heap)(o:Obj)(ho:o.isFreed=false):(h.push o).get? h.objs.size=some o:=Heap.get?_push_size h ho
theorem j3(h:Heap):h.get? h.objs.size=none:=by
 cases z:h.get? h.objs.size with
 |none=>rfl
 |some o=>exact absurd (Heap.lt_size z) (Nat.lt_irrefl _)
theorem zR(h:Heap)(o:Obj):h.get? (h.push o).objs.size=none:=by
 cases z:h.get? (h.push o).objs.size with
 |none=>rfl
 |some o=>exact nomatch (j3 _).symm.trans (jf _ _ _ _ z)
theorem jE:jb<sizeLine:=by rw [sizeLine_eq];decide
theorem Post.newList{K:MV->St->Prop}{xs:List MV}{h':Heap}{a:Nat}{ys:Array Value}{n:Nat}{tk:Nat}(S:Sim P st s.heap)(k:jq st (.list xs) K)(ha:s.heap.get? a=none)
  (kp:∀ b ob,s.heap.get? b=some ob->h'.get? b=some ob) (hg:h'.get? a=some (jL ys n)) (hl:xs.length≤jb) (v:Vs P h' xs ys.toList) :
  Post P st s K (.ref a) { s with heap:=h',toks:=tk } :=
 ⟨.ref a,_,k a (S.st_none ha),rfl,S.alloc ha kp ⟨ys,n,hg,hl,v⟩,Go.alloc ha kp⟩
theorem Post.pushList{K:MV->St->Prop}{xs:List MV}{ys:Array Value}(S:Sim P st s.heap)(k:jq st (.list xs) K)(hl:xs.length≤jb)(v:Vs P s.heap xs ys.toList) :
  Post P st s K (.ref s.heap.objs.size) { s with heap:=s.heap.push (jL ys 0) } :=
 Post.newList S k (j3 _) (jf _ _) (j8 _ _ rfl) hl (v.mono (S.monoK (jf _ _)))
theorem xj{st₁:St}{s₁:Shared}{t:Sem Value}{K:MV->St->Prop}(g:Go st s st₁ s₁)(h:wpAny (model prog w) A t (Post P st₁ s₁ K) NoE s₁) :
  wpAny (model prog w) A t (Post P st s K) NoE s₁:=wpAny_mono h (fun _ _ p=>p.go g) fun _ _ e=>e
end
structure Room(A:Around)(n:Nat):Prop where
 handled:A.handled=none
 depth:A.depth+4*n+20<recursionLimit
 units:A.units+20*n+100<cLine
theorem QN(a b:Int)(ha:0≤a)(hb:0≤b):Builtin.bitAnd a b=((a.toNat &&& b.toNat:Nat):Int):=by
 obtain ⟨n,rfl⟩:=Int.eq_ofNat_of_zero_le ha
 obtain ⟨m,rfl⟩:=Int.eq_ofNat_of_zero_le hb
 simp [Builtin.bitAnd]
theorem G9(a b:Int)(ha:0≤a)(hb:0≤b):Builtin.bitOr a b=((a.toNat ||| b.toNat:Nat):Int):=by
 obtain ⟨n,rfl⟩:=Int.eq_ofNat_of_zero_le ha
 obtain ⟨m,rfl⟩:=Int.eq_ofNat_of_zero_le hb
 have h1:decide (0≤Builtin.bitNot (n:Int))=false:=by simp [Builtin.bitNot];w_up
 have h2:decide (0≤Builtin.bitNot (m:Int))=false:=by simp [Builtin.bitNot];w_up
 have h3:∀ x:Int,Builtin.bitNot (Builtin.bitNot x)=x:=fun x=>by simp [Builtin.bitNot];w_up
 unfold Builtin.bitOr Builtin.bitAnd
 rw [h1,h2]
 simp only [h3,Int.toNat_natCast]
theorem jeh{a b x y r s:Nat}(h1:a=x+y)(h2:b=r+s):2*a+b=(2*x+r)+(2*y+s):=by w_up
theorem jem{i j:Nat}(h:i<2)(h':j<2):i ||| j=(i ^^^ j)+(i &&& j):=(show ∀ i j:Fin 2,i.val ||| j.val=(i.val ^^^ j.val)+(i.val &&& j.val) by decide) ⟨i,h⟩ ⟨j,h'⟩
theorem jdQ(n m:Nat):n ||| m=(n ^^^ m)+(n &&& m):=by
 induction n using Nat.strongRecOn generalizing m with
 |ind n ih =>
  by_cases h:n=0
  ·rw [h,Nat.zero_or,Nat.zero_xor,Nat.zero_and];rfl
  ·have h1:=ih (n / 2) (Nat.div_lt_self (Nat.pos_of_ne_zero h) (by decide)) (m / 2)
   rw [← Nat.or_div_two,← Nat.xor_div_two,← Nat.and_div_two] at h1
   have h2:=jem (Nat.mod_lt n (show 2 > 0 by decide)) (Nat.mod_lt m (show 2 > 0 by decide))
   rw [← Nat.or_mod_two_pow (n:=1),← Nat.xor_mod_two_pow (n:=1),← Nat.and_mod_two_pow (n:=1)] at h2
   have h3:=jeh h1 h2
   rwa [Nat.div_add_mod,Nat.div_add_mod,Nat.div_add_mod] at h3
theorem Oa(a b:Int)(ha:0≤a)(hb:0≤b):Builtin.bitXor a b=((a.toNat ^^^ b.toNat:Nat):Int):=by
 unfold Builtin.bitXor
 rw [G9 a b ha hb,QN a b ha hb,jdQ,Int.natCast_add,Int.add_sub_cancel]
section
variable {P:Pm}{A:Around}{s:Shared}{st:St}
theorem gN{E:Value->Shared->Prop}{l:Addr}{items:Array Value}{k:Nat}{x:Int}{u:Tok}{Q:Value->Shared->Prop}
  (hl:s.heap.get? l=some { cls:=.type "list",dict:=none,data:=.seq items k,slots:=#[] })
  (hlo:0≤x) (hhi:x<jb) (hsz:items.size=1)
  (h:Q (.ref s.heap.objs.size) { s with heap:=s.heap.push { cls:=.type "list",data:=.seq (List.foldl (fun x1 x2=>x1++x2) #[] (List.replicate (if items.isEmpty=true then 0 else x.toNat) items)) } }) :
  wpAny (model prog w) A (binaryOp .Mult (.ref l) (.int x u)) Q E s :=
 wpAny_binaryOp_repeat_ref (T:="list") (U:="int") (by decide) ⟨_,hl,rfl⟩ (fun s'=>typeIs_int s' x u) noFill_list_mul F.fills_int_mul F.slot_int_rmul repeat_list F.slot_int_index.lookup
  (call_meets F.slot_int_rmul (typeIs_int s x u) F.entry_int_rmul (F.args_int_rmul_2 _ _) (int___rmul___int_list x u l items k)
   ⟨hl,rfl,⟨_,hl,rfl⟩,call_meets F.slot_list_mul ⟨_,hl,rfl⟩ F.entry_list_mul (F.args_list_mul_2 _ _)
    (AutoListH.list___mul___list_int_3 l items k x u (by unfold jb at hhi;simp [Builtin.List.listFitsIndex];w_up) (by unfold jb at hhi;w_up) (by unfold jb at hhi;simp [Builtin.List.listTooLong,sizeLine,hsz];w_up))
    ⟨hl,h⟩⟩)
theorem UT(v:Value)(n:Nat):(List.foldl (fun x1 x2=>x1++x2) #[] (List.replicate n (#[v]:Array Value))).toList=List.replicate n v:=by
 have key:∀ n (a:Array Value),(List.foldl (fun x1 x2=>x1++x2) a (List.replicate n (#[v]:Array Value))).toList=a.toList++List.replicate n v:=by
  intro n
  induction n with
  |zero=>intro a;exact (List.append_nil _).symm
  |succ n ih=>intro a;rw [List.replicate_succ,List.foldl_cons,ih];simp [List.replicate_succ]
 exact key n #[]
theorem o3{a b c d:Nat}(h1:a=c)(h2:b=d)(h:a+b<jb):c+d≤sizeLine:=by rw [← h1,← h2,sizeLine_eq];unfold jb at h;w_up
theorem U9{r q:Nat}{xs ys:List MV}{K:MV->St->Prop}(S:Sim P st s.heap)(h1:st r=some (.list xs))(h2:st q=some (.list ys))(hl:xs.length+ys.length<jb)(h:jq st (.list (xs++ys)) K):wpAny (model prog w) A (binaryOp .Add (.ref r) (.ref q)) (Post P st s K) NoE s:=by
 obtain ⟨us,n,e1,_,v1,z1,_⟩:=S.lst h1
 obtain ⟨ws,m,e2,_,v2,z2,_⟩:=S.lst h2
 refine PySem.P.add_list e1 e2 (Post.pushList S h ?_ ?_) (o3 z1 z2 hl)
 ·rw [List.length_append];exact Nat.le_of_lt hl
 ·rw [Array.toList_append];exact v1.append v2
theorem jdU{h:Heap}{x:MV}{us:Array Value}(v:Vs P h [x] us.toList):∃ v,us = #[v]/\V P h x v:=by
 obtain ⟨v,r,e,hv,z⟩:=v
 exact ⟨v,Array.toList_inj.mp (e.trans (by rw [show r=[] from z])),hv⟩
theorem Os{n:Int}(h:0≤n/\n<jb):n.toNat≤jb:=by have:=h.1;have:=h.2;unfold jb at *;w_up
theorem oN{r:Nat}{n:Int}{u:Tok}{x:MV}{K:MV->St->Prop}(S:Sim P st s.heap)(h1:st r=some (.list [x]))(hn:0≤n/\n<jb)(h:jq st (.list (List.replicate n.toNat x)) K):wpAny (model prog w) A (binaryOp .Mult (.ref r) (.int n u)) (Post P st s K) NoE s:=by
 obtain ⟨us,k,e1,_,v1,z1,_⟩:=S.lst h1
 obtain ⟨v,rfl,hv⟩:=jdU v1
 refine gN e1 hn.1 hn.2 rfl (Post.pushList S h ?_ ?_)
 ·rw [List.length_replicate];exact Os hn
 ·exact (UT v n.toNat).symm▸Vs.replicate hv _
theorem oK{x y:Int}(h : -jP<x/\x<jP/\-jP<y/\y<jP):IntMulOk x y:=by
 obtain ⟨h1,h2,h3,h4⟩:=h
 unfold jP at h1 h2 h3 h4
 exact IntMulOk.of_left (intBits_le_64 (by w_up) (by w_up))
theorem jdS{op:BOp}{a b:MV}{va vb:Value}{K:MV->St->Prop}(S:Sim P st s.heap)(hh:A.handled=none)(ha:V P s.heap a va)(hb:V P s.heap b vb)(h:YN op a b st K) :
  wpAny (model prog w) A (binaryOp (pyB op) va vb) (Post P st s K) NoE s:=by
 have two:∀ {x y:Int}{o:Operator},V P s.heap (.int x) va->V P s.heap (.int y) vb->(∀ t u,wpAny (model prog w) A (binaryOp o (.int x t) (.int y u)) (Post P st s K) NoE s)->wpAny (model prog w) A (binaryOp o va vb) (Post P st s K) NoE s:=by
  intro x y o ha hb k
  apply yW ha;intro t;apply yW hb;exact k t
 change BinR st K op a b at h
 revert ha hb
 induction h with
 |addi h=>intro ha hb;exact two ha hb fun t u=>wpAny_add_int (.tok S h ⟨_,rfl⟩)
 |addl h1 h2 hl h=>intro ha hb;apply vIs ha;apply vIs hb;exact U9 S h1 h2 hl h
 |sub h=>intro ha hb;exact two ha hb fun t u=>sub_int (.tok S h ⟨_,rfl⟩)
 |mul hm h=>intro ha hb;exact two ha hb fun t u=>mul_int (.tok S h ⟨_,rfl⟩) (oK hm)
 |rep h1 hn h=>intro ha hb;apply vIs ha;apply yW hb;intro u;exact oN S h1 hn h
 |fdiv hm h=>intro ha hb;exact two ha hb fun t u=>floordiv_int (Int.ne_of_gt hm.1) (.tok S h ⟨_,congrArg (Value.int · _) (Int.fdiv_eq_ediv_of_nonneg _ (Int.le_of_lt hm.1))⟩) (.inl (PyProof.noPylong_small (by have:=hm.1;have:=hm.2;w_up)))
 |mod h1 h=>intro ha hb;exact two ha hb fun t u=>mod_int (Int.ne_of_gt h1) (.tok S h ⟨_,congrArg (Value.int · _) (Int.fmod_eq_emod_of_nonneg _ (Int.le_of_lt h1))⟩)
 |shl hm h=>intro ha hb;exact two ha hb fun t u=>lshift_int_small hm.2.2.1 (by have:=hm.2.2.2;unfold Xs at this;w_up) (by have:=hm.2.1;unfold jP at this;w_up) (.tok S h ⟨_,rfl⟩)
 |shr hm h=>intro ha hb;exact two ha hb fun t u=>rshift_int hm.2.1 (.tok S h ⟨_,congrArg (Value.int · _) (Int.fdiv_eq_ediv_of_nonneg _ (Int.le_of_lt (Int.pow_pos (by decide))))⟩)
 |band hm h=>intro ha hb;exact two ha hb fun t u=>and_int (.tok S h ⟨_,congrArg (Value.int · _) (QN _ _ hm.1 hm.2)⟩)
 |bor hm h=>intro ha hb;exact two ha hb fun t u=>or_int (.tok S h ⟨_,congrArg (Value.int · _) (G9 _ _ hm.1 hm.2)⟩)
 |bxor hm h=>intro ha hb;exact two ha hb fun t u=>xor_int (.tok S h ⟨_,congrArg (Value.int · _) (Oa _ _ hm.1 hm.2)⟩)
end
theorem jX{x y:String}(h:Str.ofString x=Str.ofString y):x=y:=by
 rw [Str.ofString_eq_toList,Str.ofString_eq_toList] at h
 simp only [Str.mk.injEq,Array.mk.injEq] at h
 have:x.toList=y.toList:=by
  refine List.map_inj_right (f:=Char.toNat) (fun a b e=>?_) |>.mp h
  exact Char.toNat_inj.mp e
 exact String.toList_inj.mp this
theorem bd(a b:Int):(a==b)=decide (a=b):=by rw [Bool.eq_iff_iff];simp
section
variable {P:Pm}{A:Around}{s:Shared}{st:St}
inductive jhn (Q:Value->Shared->Prop) (v:Value) (s:Shared):Prop
 | mk (b:Bool) (e:v=.bool b) (k:Q (.bool (!b)) s)
theorem VR{M:Model}{E:Value->Shared->Prop}{x c:Value}{Q:Value->Shared->Prop}(h:wpAny M A (compareOp .In x c) (jhn Q) E s) :
  wpAny M A (compareOp .NotIn x c) Q E s:=fun Γ p hΓ=>by
 have h':=h Γ p hΓ
 change Sem.wp M Γ (contains c x>>=fun b=>pure (Value.bool b)) _ _ p s at h'
 show Sem.wp M Γ (contains c x>>=fun b=>pure (Value.bool (!b))) _ _ p s
 rw [Sem.wp_bind'] at h' ⊢
 refine Sem.wp_mono M Γ _ (fun b p' s' q=>?_) (fun _ _ _ q=>q) _ _ h'
 obtain ⟨b',e,q⟩:=q
 cases e;exact q
theorem GD{vs us:List Value}{xs ys:List Int}(a:IntsAre vs xs)(b:IntsAre us ys)(hl:vs.length=us.length) :
  ((List.range vs.length).all fun j=>(xs.getD j 0==ys.getD j 0))=decide (xs=ys):=by
 have l1:=a.length;have l2:=b.length
 rw [Bool.eq_iff_iff,List.all_eq_true,decide_eq_true_iff]
 constructor
 ·intro h
  apply List.ext_getElem (by w_up)
  intro i h1 h2
  have:=h i (List.mem_range.mpr (by w_up))
  simpa [List.getD_eq_getElem?_getD,List.getElem?_eq_getElem h1,List.getElem?_eq_getElem h2] using this
 ·rintro rfl j _;simp
theorem G8{vs:List Value}{xs:List Int}(a:IntsAre vs xs):∀ (j:Nat) (h:j<vs.length),∃ t,vs[j]=.int (xs.getD j 0) t:=by
 induction a with
 |nil=>intro j h;exact absurd h (Nat.not_lt_zero _)
 |cons n t _ ih =>
  intro j h
  cases j with
  |zero=>exact ⟨t,rfl⟩
  |succ j=>simpa using ih j (by simpa using h)
theorem v8{h:Heap}{x:Int}{xs:List MV}{vs:List Value}{G:List Value->Prop}(q:Vs P h (.int x::xs) vs)(k:∀ t r,Vs P h xs r->G (.int x t::r)):G vs:=by
 obtain ⟨v,r,e,⟨t,f⟩,z⟩:=q
 rw [e,f];exact k t r z
inductive jhy (h:Heap) (a b:Int) (v:Value):Prop
 | mk (r:Addr) (t u:Tok) (e:v=.ref r) (i:h.IsTuple r #[.int a t,.int b u])
inductive jhE (P:Pm) (h:Heap) (a b:Int) (c:MV) (v:Value):Prop
 | mk (r:Addr) (t u:Tok) (x:Value) (e:v=.ref r) (k:V P h c x) (i:h.IsTuple r #[.int a t,.int b u,x])
theorem jey{h:Heap}{r:Addr}{xs:Array Value}(i:h.IsTuple r xs):h.IsTuple r xs.toList.toArray:=i
theorem vt2{h:Heap}{a b:Int}{v:Value}(x:V P h (.tup [.int a,.int b]) v):jhy h a b v:=by
 obtain ⟨r,xs,e,_,hx,q⟩:=x
 have hx:=jey hx
 generalize xs.toList=l at q hx
 revert hx
 apply v8 q;intro t _ q;apply v8 q;intro u z q
 rw [show z=[] from q];exact fun hx=>⟨r,t,u,e,hx⟩
theorem vt3{h:Heap}{a b:Int}{c:MV}{v:Value}(x:V P h (.tup [.int a,.int b,c]) v):jhE P h a b c v:=by
 obtain ⟨r,xs,e,_,hx,q⟩:=x
 have hx:=jey hx
 generalize xs.toList=l at q hx
 revert hx
 apply v8 q;intro t _ q;apply v8 q;intro u z q
 obtain ⟨y,_,f,hy,q⟩:=q
 rw [f,show _=[] from q];exact fun hx=>⟨r,t,u,y,e,hy,hx⟩
theorem gG{h:Heap}{r:Addr}{xs ys:Array Value}(a:h.IsTuple r xs)(b:h.IsTuple r ys):xs=ys:=by
 obtain ⟨o,p,_,n,d⟩:=a;obtain ⟨o',p',_,n',d'⟩:=b
 have e:=congrArg Obj.data (Option.some.inj (p.symm.trans p'))
 rw [d,d'] at e;exact (Data.seq.inj e).1
theorem jcT{x y:Addr}{a b c d:Int}{t u t' u':Tok}(hx:s.heap.IsTuple x #[.int a t,.int b u])(hy:s.heap.IsTuple y #[.int c t',.int d u'])(hu:A.units<cLine):EqAt A s (.ref x) (.ref y) (decide (a=c/\b=d)):=by
 by_cases hne:x=y
 ·subst hne
  have e:=gG hx hy
  simp only [Array.mk.injEq,List.cons.injEq,Value.int.injEq] at e
  rw [decide_eq_true ⟨e.1.1,e.2.1.1⟩];exact EqAt.same _
 ·refine EqAt.of_refs hne ?_
  have q:=RcAt.tuples (A:=A) (e:=fun j=>match j with | 0=>a==c | _=>b==d) hx hy hu fun j h1 h2=>by
   rcases j with _ | _ | j
   ·exact EqAt.int_int a t c t'
   ·exact EqAt.int_int b u d u'
   ·exact absurd h1 (Nat.not_lt.mpr (Nat.le_add_left _ _))
  have e:((List.range 2).all (fun j=>match j with | 0=>a==c | _=>b==d)&&(2==2))=decide (a=c/\b=d):=by
   simp [List.range_succ,Bool.decide_and,bd]
  exact e▸q
theorem jeW{x y:Addr}{a b c d:Int}{t u t' u':Tok}{v w:Value}{r:Bool}(hx:s.heap.IsTuple x #[.int a t,.int b u,v])(hy:s.heap.IsTuple y #[.int c t',.int d u',w])(hu:A.units<cLine)(hr:EqAt A.in1 s v w r):RcAt A s (.ref x) (.ref y) (decide (a=c)&&(decide (b=d)&&r)):=by
 have q:=RcAt.tuples (A:=A) (e:=fun j=>match j with | 0=>a==c | 1=>b==d | _=>r) hx hy hu fun j h1 h2=>by
  rcases j with _ | _ | _ | j
  ·exact EqAt.int_int a t c t'
  ·exact EqAt.int_int b u d u'
  ·exact hr
  ·exact absurd h1 (Nat.not_lt.mpr (Nat.le_add_left _ _))
 have e:((List.range 3).all (fun j=>match j with | 0=>a==c | 1=>b==d | _=>r)&&(3==3))=(decide (a=c)&&(decide (b=d)&&r)):=by
  simp [List.range_succ,Bool.and_assoc,bd]
 exact e▸q
section
variable {r t:Nat} (S:Sim P st s.heap) (hu:A.units+3<cLine) {Q:Value->Shared->Prop}
include S hu
theorem jff{xs ys:List Int}(h1:st r=some (.list (xs.map .int)))(h2:st t=some (.list (ys.map .int)))(k:Q (.bool (decide (xs=ys))) s):wpAny (model prog w) A (compareOp .Eq (.ref r) (.ref t)) Q NoE s:=by
 obtain ⟨us,n,e1,_,v1,l1,L1⟩:=S.lst h1
 obtain ⟨ws,m,e2,_,v2,l2,L2⟩:=S.lst h2
 have i1:=Vs.ints.mp v1;have i2:=Vs.ints.mp v2
 rw [List.length_map] at l1 l2
 by_cases hsz:us.size=ws.size
 ·refine eq_listAt (e:=fun j=>xs.getD j 0==ys.getD j 0) L1 L2 hsz (by w_up) (fun j g1 g2=>?_) ?_
  ·obtain ⟨t1,z1⟩:=G8 i1 j (by simpa using g1)
   obtain ⟨t2,z2⟩:=G8 i2 j (by simpa using g2)
   rw [Array.getElem_toList] at z1 z2
   rw [z1,z2];exact EqAt.int_int _ t1 _ t2
  ·have:=GD i1 i2 (by simpa using hsz)
   rw [Array.length_toList] at this
   rw [this];exact k
 ·refine eq_list_lengthsAt L1 L2 (by simpa using hsz) (by w_up) ?_
  have:decide (xs=ys)=false:=decide_eq_false fun e=>hsz (by rw [← l1,← l2,e])
  rw [← this];exact k
theorem jdx{xs:List MV}(h1:st r=some (.list xs))(h2:st t=some (.list []))(k:Q (.bool xs.isEmpty) s):wpAny (model prog w) A (compareOp .Eq (.ref r) (.ref t)) Q NoE s:=by
 obtain ⟨us,n,e1,_,v1,l1,L1⟩:=S.lst h1
 obtain ⟨ws,m,e2,_,v2,l2,L2⟩:=S.lst h2
 have z:ws.size=0:=l2.symm
 by_cases hsz:us.size=ws.size
 ·refine eq_listAt (e:=fun j=>true) L1 L2 hsz (by w_up) (fun j g1 g2=>by w_up) ?_
  obtain rfl:xs=[]:=List.length_eq_zero_iff.mp (by w_up)
  have:(List.range us.size).all (fun _=>true)=true:=by simp
  rw [this];exact k
 ·refine eq_list_lengthsAt L1 L2 (by simpa using hsz) (by w_up) ?_
  cases xs with
  |nil=>exact absurd (l1.symm.trans z.symm) hsz
  |cons _ _=>exact k
end
theorem str_beq{x y:String}:(Str.ofString x==Str.ofString y)=decide (x=y):=by
 rw [Bool.eq_iff_iff,beq_iff_eq,decide_eq_true_iff]
 exact ⟨jX,fun e=>by rw [e]⟩
theorem jfG{a b:MV}{va vb:Value}{K:Bool->Prop}(S:Sim P st s.heap)(hu:A.units+3<cLine)(ha:V P s.heap a va)(hb:V P s.heap b vb)(h:EqR st K a b) :
  wpAny (model prog w) A (compareOp .Eq va vb) (OkB K s) NoE s:=by
 have fin:∀ r,K r->OkB K s (.bool r) s:=fun r k=>⟨r,s.toks,rfl,k,rfl⟩
 revert ha hb
 induction h with
 |nn h=>intro ha hb;apply vIs ha;apply vIs hb;exact PySem.EqNone.eq_none_none (fin _ h)
 |nt h =>
  intro ha hb
  obtain ⟨x,ys,e,_,ht,_⟩:=hb
  apply vIs ha;apply vIs e
  exact RcAt.none_tuple (A:=A) ht (by w_up) prog w NoE _ (fin _ h)
 |tn h =>
  intro ha hb
  obtain ⟨x,ys,e,_,ht,_⟩:=ha
  apply vIs hb;apply vIs e
  exact RcAt.tuple_none (A:=A) ht (by w_up) prog w NoE _ (fin _ h)
 |int h=>intro ha hb;apply yW ha;intro t;apply yW hb;intro u;exact eq_int (fin _ h)
 |bool h=>intro ha hb;apply vIs ha;apply vIs hb;exact eq_bool (fin _ h)
 |str h=>intro ha hb;apply jab ha;intro t;apply jab hb;intro u;exact eq_str (fin _ (str_beq.symm▸h))
 |tup h =>
  intro ha hb
  obtain ⟨x,t1,t2,v,e,hv,hx⟩:=vt3 ha
  obtain ⟨y,q1,q2,u,e',hu',hy⟩:=vt3 hb
  obtain ⟨x',t3,t4,f,hx'⟩:=vt2 hv
  obtain ⟨y',q3,q4,f',hy'⟩:=vt2 hu'
  apply vIs e;apply vIs e'
  rw [f] at hx;rw [f'] at hy
  refine jeW hx hy (by w_up) (jcT hx' hy' (by show A.units+1<_;w_up)) prog w NoE _ (fin _ ?_)
  rw [← Bool.decide_and,← Bool.decide_and];exact h
 |lst h1 h2 k=>intro ha hb;apply vIs ha;apply vIs hb;exact jff S hu h1 h2 (fin _ k)
 |nil h1 h2 k=>intro ha hb;apply vIs ha;apply vIs hb;exact jdx S hu h1 h2 (fin _ k)
end
theorem qM{α β:Type}{p:α->Bool}{f:α->β}{e:α}{es:List α}:((e::es).find? p).map f=bif p e then some (f e) else (es.find? p).map f:=by
 rw [List.find?_cons];cases p e<;>rfl
def Found(P:Pm)(h:Heap)(a:Option MV)(b:Option Value):Prop:=a.isSome=b.isSome/\∀ u,a=some u->∃ v,b=some v/\V P h u v
theorem Found.ite{P:Pm}{h:Heap}{p:Prop}[Decidable p]{c:Bool}{u:MV}{v:Value}{a:Option MV}{b:Option Value}(e:c=decide p)(x:V P h u v)(y:Found P h a b):Found P h (if p then some u else a) (bif c then some v else b):=by
 by_cases q:p
 ·rw [if_pos q,e,decide_eq_true q];exact ⟨rfl,fun w z=>⟨v,rfl,Option.some.inj z▸x⟩⟩
 ·rw [if_neg q,e,decide_eq_false q];exact y
theorem xD{P:Pm}{h:Heap}{es:List (Int×MV)}{kvs:List (Int×Value)}(q:KvsAre P h es kvs)(k:Int):Found P h (lkD es k) (valueAt kvs k):=by
 refine Pw.ind (G:=fun es kvs=>Found P h (lkD es k) (valueAt kvs k)) ⟨rfl,fun _ e=>nomatch e⟩ (fun f e es kvs h _ ih=>?_) q
 unfold valueAt
 rw [qM]
 exact ih.ite (by rw [h.1]) h.2
theorem UM{P:Pm}{h:Heap}{es:List ((Int×Int)×MV)}{kvs:List (List Int×Addr×Value)}(q:KksAre P h es kvs)(x y:Int):Found P h (lkD es (x,y)) ((atKey kvs [x,y]).map (·.2)):=by
 refine Pw.ind (G:=fun es kvs=>Found P h (lkD es (x,y)) ((atKey kvs [x,y]).map (·.2))) ⟨rfl,fun _ e=>nomatch e⟩ (fun f e es kvs h _ ih=>?_) q
 unfold atKey at ih ⊢
 rw [Option.map_map] at ih ⊢
 rw [qM]
 refine Found.ite ?_ h.2.2 ih
 rw [h.1]
 exact decide_eq_decide.mpr ⟨fun e=>Prod.ext (List.cons.inj e).1 (List.cons.inj (List.cons.inj e).2).1,fun e=>by rw [e]⟩
section
variable {P:Pm}{A:Around}{s:Shared}{st:St}
def SysOk(P:Pm):Prop:=h₀.get? mainGlobals≠none
theorem SysOk.ne{P:Pm}(hs:SysOk P){h:Heap}(k:∀ a o,h₀.get? a=some o->h.get? a=some o){a:Nat}(e:h.objs.size≤a):a≠sysModules:=by
 rintro rfl
 cases z:h₀.get? mainGlobals with
 |none=>exact hs z
 |some o =>
  have h1:=Heap.lt_size (k _ _ z)
  have h2:mainGlobals<sysModules:=Nat.lt_of_lt_of_le h1 e
  exact absurd h2 (by decide)
noncomputable def jdO(o:MObj):Bool:=o.casesOn (fun _=>false) (fun _=>true) (fun _=>true) (fun _=>true) (fun _ _ _=>false) (fun _=>false)
theorem Y0(S:Sim P st s.heap)(hs:SysOk P){a:Nat}{o:MObj}(e:st a=some o)(ho:jdO o=true:=by rfl):(a==sysModules)=false:=by
 rw [beq_eq_false_iff_ne]
 have:=S.rep a o e
 cases o with
 |idict es=>obtain ⟨_,_,h,_⟩:=this;exact h.2
 |fdict es=>obtain ⟨_,_,h,_⟩:=this;exact h.2
 |tdict es=>obtain ⟨_,_,h,_⟩:=this;exact h.2
 |_=>cases ho
theorem Gr{h:Heap}{zs:List String}{vs:List Value}(q:Vs P h (zs.map .str) vs):StrsAre vs (zs.map Str.ofString):=by
 induction zs generalizing vs with
 |nil=>rw [show vs=[] from q];exact .nil
 |cons z zs ih =>
  obtain ⟨v,r,e,⟨t,f⟩,h⟩:=q
  rw [e,f];exact .cons _ _ (ih h)
theorem vQ{x:Int}{t:Tok}:(intKind prog w).is x (.int x t)=true:=by simp [intKind,Value.isInt]
theorem ZQ{h:Heap}{x y:Int}{v:Value}(e:V P h (.tup [.int x,.int y]) v):∃ a,v=.ref a/\¬ P.dead a/\IsTupleKey (intKind prog w) h [x,y] a:=by
 obtain ⟨a,ys,e,⟨hd,_⟩,⟨o,ho,hc,n,hdt⟩,q⟩:=e
 refine ⟨a,e,hd,o,ys,n,ho,hc,hdt,?_⟩
 generalize ys.toList=l at q
 apply v8 q;intro t _ q;apply v8 q;intro u z q
 rw [show z=[] from q]
 exact .cons vQ (.cons vQ .nil)
theorem any_int{xs:List Int}{x:Int}:xs.any (·==x)=decide (x∈xs):=by
 rw [Bool.eq_iff_iff,List.any_eq_true,decide_eq_true_iff]
 exact ⟨fun ⟨y,h,e⟩=>beq_iff_eq.mp e▸h,fun h=>⟨x,h,beq_self_eq_true x⟩⟩
theorem any_str{zs:List String}{x:String}:(zs.map Str.ofString).any (·==Str.ofString x)=decide (x∈zs):=by
 rw [Bool.eq_iff_iff,List.any_eq_true,decide_eq_true_iff]
 refine ⟨fun ⟨y,h,e⟩=>?_,fun h=>⟨_,List.mem_map_of_mem h,beq_self_eq_true _⟩⟩
 obtain ⟨z,hz,q⟩:=List.mem_map.mp h
 exact jX (q.trans (beq_iff_eq.mp e))▸hz
theorem jdj{a b:MV}{va vb:Value}{K:Bool->Prop}(S:Sim P st s.heap)(hs:SysOk P)(hu:A.units+3<cLine)(ha:V P s.heap a va)(hb:V P s.heap b vb)(h:InR st K a b) :
  wpAny (model prog w) A (compareOp .In va vb) (OkB K s) NoE s:=by
 have fin:∀ r,K r->OkB K s (.bool r) s:=fun r k=>⟨r,s.toks,rfl,k,rfl⟩
 revert ha hb
 induction h with
 |list h1 k =>
  intro ha hb
  apply yW ha;intro t;apply vIs hb
  obtain ⟨us,n,e1,_,v1,_,L⟩:=S.lst h1
  exact in_list_ints (vs:=us.toList) L (Vs.ints.mp v1) (fin _ (any_int.symm▸k))
 |dict h1 k =>
  intro ha hb
  apply yW ha;intro t;apply vIs hb
  obtain ⟨kvs,hd,_,hk⟩:=S.rep _ _ h1
  exact wpAny_in_of (knd:=intKind prog w) vQ (Y0 S hs h1) hd.mapOf ⟨_,_,rfl,(xD hk _).1▸k,rfl⟩
 |tup k =>
  intro ha hb
  obtain ⟨c,vs,e,_,⟨o,ho,hc,n,hd⟩,hv⟩:=hb
  apply jab ha;intro t;apply vIs e
  exact in_tuple_strs ⟨o,ho,hc,n,hd⟩ (Gr hv) (fin _ (any_str.symm▸k))
 |tdict h1 k =>
  intro ha hb
  obtain ⟨c,e,_,hk⟩:=ZQ ha
  apply vIs e;apply vIs hb
  obtain ⟨xs,hd,_,hx⟩:=S.rep _ _ h1
  exact wpAny_in_heap (knd:=tupleKind (intKind prog w)) (tupleKind_room_in1 (by w_up)) hk (Y0 S hs h1) hd ⟨_,_,rfl,((UM hx _ _).1.trans (Option.isSome_map ..))▸k,rfl⟩
theorem jes{r t:Nat}{xs:List MV}{Q:Value->Shared->Prop}(S:Sim P st s.heap)(hu:A.units+3<cLine)(h1:st r=some (.list xs))(h2:st t=some (.list []))(k:Q (.bool (!xs.isEmpty)) s):wpAny (model prog w) A (compareOp .NotEq (.ref r) (.ref t)) Q NoE s:=by
 obtain ⟨us,n,e1,_,v1,l1,L1⟩:=S.lst h1
 obtain ⟨ws,m,e2,_,v2,l2,L2⟩:=S.lst h2
 by_cases hsz:us.size=ws.size
 ·refine RcNeAt.lists (A:=A) (e:=fun j=>true) L1 L2 hsz (by w_up) (fun j g1 g2=>absurd g2 (l2▸Nat.not_lt_zero j)) prog w NoE _ ?_
  have e:=hsz.trans l2.symm
  rw [e]
  obtain rfl:xs=[]:=List.length_eq_zero_iff.mp (l1.trans e)
  exact k
 ·refine RcNeAt.lists_lengths (A:=A) (s:=s) L1 L2 (by simpa using hsz) (by w_up) prog w NoE _ ?_
  cases xs with
  |nil=>exact absurd (l1.symm.trans l2) hsz
  |cons _ _=>exact k
theorem bned{x y:Int}:(x != y)=decide (x≠y):=by rw [Bool.eq_iff_iff];simp
theorem jew{op:COp}{a b:MV}{va vb:Value}{K:Bool->Prop}(S:Sim P st s.heap)(hs:SysOk P)(hu:A.units+3<cLine)(ha:V P s.heap a va)(hb:V P s.heap b vb)(h:yo op a b st K) :
  wpAny (model prog w) A (compareOp (pyC op) va vb) (OkB K s) NoE s:=by
 have fin:∀ r,K r->OkB K s (.bool r) s:=fun r k=>⟨r,s.toks,rfl,k,rfl⟩
 change CmpR st K op a b at h
 revert ha hb
 induction h with
 |eq h=>intro ha hb;exact jfG S hu ha hb h
 |ne h=>intro ha hb;apply yW ha;intro t;apply yW hb;intro u;exact ne_int (fin _ (bned.symm▸h))
 |neb h=>intro ha hb;apply vIs ha;apply vIs hb;exact ne_bool (fin _ h)
 |nee h1 h2 k=>intro ha hb;apply vIs ha;apply vIs hb;exact jes S hu h1 h2 (fin _ k)
 |lt h=>intro ha hb;apply yW ha;intro t;apply yW hb;intro u;exact lt_int (fin _ h)
 |le h=>intro ha hb;apply yW ha;intro t;apply yW hb;intro u;exact le_int (fin _ h)
 |gt h=>intro ha hb;apply yW ha;intro t;apply yW hb;intro u;exact gt_int (fin _ h)
 |inn h=>intro ha hb;exact jdj S hs hu ha hb h
 |nin h =>
  intro ha hb
  refine VR (wpAny_mono (jdj S hs hu ha hb h) (fun v s' q=>?_) fun _ _ e=>e)
  obtain ⟨r,tk,e,k,f⟩:=q
  exact ⟨r,e,_,_,rfl,k,f⟩
theorem xK{slice:Expr}(h:xu slice=true)(o i:Value):subscripted slice false o i=operate [o,i] (getItem o i):=by
 have p:operate [o,i] (getItem o i)=operate [o,i] (getItem o i):=rfl
 cases slice<;>first | exact p | cases h
theorem oW{xs:List MV}{us:Array Value}{k:Int}{v:MV}(z:xs.length=us.size)(l:xs.length≤jb)(h0:0≤k)(hx:xs[k.toNat]? = some v):k<(us.size:Int)/\k<2 ^ 63/\k.toNat<us.size:=by
 have y:=z▸(List.getElem?_eq_some_iff.mp hx).1
 have q:k<(us.size:Int):=(Int.toNat_lt h0).mp y
 exact ⟨q,Int.lt_of_lt_of_le q (Int.le_trans (Int.ofNat_le.mpr (z▸l)) (by decide)),y⟩
theorem jep{value slice:Expr}{o i:MV}{vo vi:Value}{K:MV->Prop}(S:Sim P st s.heap)(ho:V P s.heap o vo)(hi:V P s.heap i vi)(hn:xu slice=true)(h:xT o i st K) :
  wpAny (model prog w) A (subscriptTail value slice vo vi) (OkV P K s) NoE s:=by
 have dict:∀ {r es k v t},OW P s.heap r es->lkD es k=some v->K v->wpAny (model prog w) A (subscriptTail value slice (.ref r) (.int k t)) (OkV P K s) NoE s:=by
  intro r es k v t R e q
  obtain ⟨kvs,hd,_,hk⟩:=R
  obtain ⟨u,hu,hv⟩:=(xD hk k).2 _ e
  exact tail_any hd.typeIs slot_dict_getitem.lookup (wpAny_getItem_of (knd:=intKind prog w) vQ hd.mapOf hu ⟨_,_,hv,q,rfl⟩) (xK hn _ _)
 change SubR st K o i at h
 revert ho hi
 induction h with
 |l h1 h0 hx kk =>
  intro ho hi
  apply vIs ho;apply yW hi;intro t
  obtain ⟨us,n,e1,hb,v1,z,hl⟩:=S.lst h1
  obtain ⟨u,hu,hv⟩:=v1.get _ hx
  have g:=oW z hb h0 hx
  exact tail_any hl.typeIs slot_list_getitem.lookup (wpAny_getItem_list (x:=u) hl h0 g.2.1 ((Array.getElem?_toList ..).symm.trans hu) ⟨_,s.toks,hv,kk,rfl⟩) (xK hn _ _)
 |d h1 hx kk=>intro ho hi;apply vIs ho;apply yW hi;intro t;exact dict (S.rep _ _ h1) hx kk
 |f h1 hx kk=>intro ho hi;apply vIs ho;apply yW hi;intro t;exact dict (S.rep _ _ h1) hx kk
 |t h0 hx kk =>
  intro ho hi
  obtain ⟨a,ys,e,⟨_,hb⟩,ht,hv⟩:=ho
  have g:=oW (hv.length.trans Array.length_toList) hb h0 hx
  obtain ⟨u,hu,hv⟩:=hv.get _ hx
  apply vIs e;apply yW hi;intro t
  exact item_tupleT (l:=ys.toList) (j:=_) ht (by w_up) g.2.1 (seqIndex_of h0 (by have:=g.1;simp;w_up)) hu ⟨_,s.toks,hv,kk,rfl⟩ (xK hn _ _)
end
section
variable {P:Pm}{A:Around}{s:Shared}{st:St}
theorem y6(h:Heap)(o o':Obj):∀ b ob,h.get? b=some ob->((h.push o).push o').get? b=some ob:=fun _ _ e=>jf _ _ _ _ (jf _ _ _ _ e)
noncomputable abbrev slc(a b c:Value):Obj:={ cls:=.type "slice",data:=.fields #[a,b,c] }
theorem YM{value:Expr}{lo hi stp:Option Expr}{p:Pos}{l:Nat}{us:Array Value}{vl vu vs:Value}{a b c:Option Int}{xs ys:List MV}{K:MV->St->Prop}
  (S:Sim P st s.heap) (L:s.heap.IsList l us) (pl:IsPart vl a) (pu:IsPart vu b) (ps:IsPart vs c) (hc:c≠some 0) (v:Vs P s.heap ys (slicePick us a b c).toList) (z:xs.length=us.size) (hz:xs.length≤jb) (hl:ys.length≤xs.length) (k:jq st (.list ys) K) {ops:List Value} (hs:subscripted (.Slice lo hi stp p) false (.ref l) (.ref s.heap.objs.size)=operate ops (getItem (.ref l) (.ref s.heap.objs.size))) :
  wpAny (model prog w) A (subscriptTail value (.Slice lo hi stp p) (.ref l) (.ref s.heap.objs.size)) (Post P st s K) NoE { s with heap:=s.heap.push (slc vl vu vs) }:=by
 have hL:=L.push (slc vl vu vs)
 refine tail_any (s:={ s with heap:=s.heap.push (slc vl vu vs) }) (ops:=ops) hL.typeIs slot_list_getitem.lookup ?_ hs
 refine wpAny_getItem_list_slice hL (Heap.IsSliceOf.new ..) pl pu ps hc ?_ (Nat.le_of_lt (Nat.lt_of_le_of_lt (z▸hz) jE))
 exact Post.newList (n:=0) S k (zR _ _) (y6 _ _ _) (j8 _ _ rfl) (Nat.le_trans hl hz) (v.mono (S.monoK (y6 _ _ _)))
theorem Xv(k:Int)(t:Tok):IsPart (.int k t) (some k):=.int k t
theorem gl{h h':Heap}{a:Nat}{ys:List MV}{us:Array Value}(S:Sim P st h)(kp:∀ b ob,h.get? b=some ob->h'.get? b=some ob)(n:h.get? a=none)(e:h'.IsTuple a us)(l:ys.length≤jb)(v:Vs P h ys us.toList):V P h' (.tup ys) (.ref a) :=
 ⟨a,us,rfl,⟨fun q=>(S.dead _ q).1.elim fun _ z=>(nomatch n.symm.trans z),l⟩,e,v.mono (S.monoK kp)⟩
inductive oq (st:St) (K:MV->St->Prop) (k:Nat):MV->Prop
 | t {xs:List MV} (l:1≤k/\k≤xs.length) (q:K (.tup (xs.drop k)) st):oq st K k (.tup xs)
 | r {r:Nat}{xs:List MV} (h:st r=some (.list xs)) (q:jq st (.list (xs.drop k)) K):oq st K k (.ref r)
theorem jgC{o:MV}{k:Int}{K:MV->St->Prop}(h:(∃ xs,o=.tup xs/\(1≤k.toNat/\k.toNat≤xs.length)/\K (.tup (xs.drop k.toNat)) st)\/(∃ r xs,o=.ref r/\st r=some (.list xs)/\jq st (.list (xs.drop k.toNat)) K)):oq st K k.toNat o:=by
 rcases h with ⟨xs,e,l,q⟩ | ⟨r,xs,e,h,q⟩
 ·rw [e];exact .t l q
 ·rw [e];exact .r h q
theorem oA{value:Expr}{lo:Option Expr}{p:Pos}{o:MV}{vo:Value}{k:Int}{t:Tok}{K:MV->St->Prop}(S:Sim P st s.heap)(ho:V P s.heap o vo)(hk:0≤k/\k<jP)
  (h:(∃ xs,o=.tup xs/\(1≤k.toNat/\k.toNat≤xs.length)/\K (.tup (xs.drop k.toNat)) st)\/(∃ r xs,o=.ref r/\st r=some (.list xs)/\jq st (.list (xs.drop k.toNat)) K)) :
  wpAny (model prog w) A (subscriptTail value (.Slice lo none none p) vo (.ref s.heap.objs.size)) (Post P st s K) NoE { s with heap:=s.heap.push (slc (.int k t) .none .none) }:=by
 have h:=jgC h
 obtain ⟨k,rfl⟩:=Int.eq_ofNat_of_zero_le hk.1
 rw [Int.toNat_natCast] at h
 revert ho
 induction h with
 |t l q =>
  rintro ⟨c,ys,e,⟨hd,hb⟩,ht,hv⟩
  apply vIs e
  have z:=hv.length.trans Array.length_toList
  have ht':IsTup (s.heap.push (slc (.int k t) .none .none)) c ys:=by
   obtain ⟨o,a1,a2⟩:=ht;exact ⟨o,jf _ _ _ _ a1,a2⟩
  refine tail_any (s:={ s with heap:=s.heap.push (slc (.int k t) .none .none) }) (ops:=[.ref s.heap.objs.size,.ref c]) ht'.typeIs slot_tuple_getitem.lookup ?_ rfl
  refine getItem_tuple_from ht' (Heap.IsSliceOf.new ..) l.1 (z▸l.2) ?_ (Nat.le_of_lt (Nat.lt_of_le_of_lt (z▸hb) jE))
  exact ⟨_,st,q,gl S (y6 _ _ _) (zR _ _) ⟨_,j8 _ _ rfl,rfl,_,rfl⟩ (Nat.le_trans (List.length_drop ..▸Nat.sub_le ..) hb) (hv.drop k),S.keeps (y6 _ _ _),⟨⟨_,_,rfl⟩,fun b ob e _=>y6 _ _ _ b ob e,fun b q=>.inl q⟩⟩
 |r h1 q =>
  intro ho
  apply vIs ho
  obtain ⟨us,n,e1,hb,v1,z,L⟩:=S.lst h1
  exact YM S L (Xv k t) .none .none (by simp) (slicePick_from' us k▸v1.drop k) z hb (List.length_drop ..▸Nat.sub_le ..) q rfl
theorem jfe{value:Expr}{hi:Option Expr}{p:Pos}{o:MV}{vo:Value}{k:Int}{t:Tok}{K:MV->St->Prop}(S:Sim P st s.heap)(ho:V P s.heap o vo)(hk:0≤k/\k<jP)
  (h:(∃ xs:List Int,o=.clist xs/\jq st (.list ((xs.map .int).take k.toNat)) K)\/(∃ r xs,o=.ref r/\st r=some (.list xs)/\jq st (.list (xs.take k.toNat)) K)) :
  wpAny (model prog w) A (subscriptTail value (.Slice none hi none p) vo (.ref s.heap.objs.size)) (Post P st s K) NoE { s with heap:=s.heap.push (slc .none (.int k t) .none) }:=by
 obtain ⟨k,rfl⟩:=Int.eq_ofNat_of_zero_le hk.1
 have key:∀ {l us xs},s.heap.IsList l us->Vs P s.heap xs us.toList->xs.length≤jb->jq st (.list (xs.take k)) K->wpAny (model prog w) A (subscriptTail value (.Slice none hi none p) (.ref l) (.ref s.heap.objs.size)) (Post P st s K) NoE { s with heap:=s.heap.push (slc .none (.int k t) .none) }:=by
  intro l us xs L v hb q
  exact YM S L .none (Xv k t) .none (by simp) (slicePick_upto' us k▸v.take k) (v.length.trans Array.length_toList) hb (List.length_take ..▸Nat.min_le_right ..) q rfl
 rcases h with ⟨xs,e,q⟩ | ⟨r,xs,e,h1,q⟩
 ·rw [e] at ho
  obtain ⟨c,us,f,hL,hi',_,hl⟩:=ho
  apply vIs f
  exact key hL (Vs.ints.mpr hi') (by rw [List.length_map];unfold jb;w_up) q
 ·rw [e] at ho
  apply vIs ho
  obtain ⟨us,n,e1,hb,v1,_,L⟩:=S.lst h1
  exact key L v1 hb q
theorem jct{value:Expr}{p:Pos}{e:Expr}{o:MV}{vo vk:Value}{K:MV->St->Prop}(S:Sim P st s.heap)(ho:V P s.heap o vo)(hk:IsPart vk (some (-1)))
  (h:∃ r xs,o=.ref r/\st r=some (.list xs)/\jq st (.list xs.reverse) K) :
  wpAny (model prog w) A (subscriptTail value (.Slice none none (some e) p) vo (.ref s.heap.objs.size)) (Post P st s K) NoE { s with heap:=s.heap.push (slc .none .none vk) }:=by
 obtain ⟨r,xs,e,h1,q⟩:=h
 rw [e] at ho
 apply vIs ho
 obtain ⟨us,n,e1,hb,v1,z,L⟩:=S.lst h1
 refine YM S L .none .none hk (by simp) ?_ z hb (Nat.le_of_eq (List.length_reverse ..)) q rfl
 rw [krv_pick];exact v1.reverse
end
open PySem.Builtin.ObjectAttr
structure GT(K:Frag)(C:Addr):Prop where
 ga:findIn K (.ref C) "__getattribute__" = some (some (.builtin "object.__getattribute__"))
 gat:findIn K (.ref C) "__getattr__" = some none
 sa:findIn K (.ref C) "__setattr__" = some (some (.builtin "object.__setattr__"))
 over:plainOver K C=true
 dict:(clsIn K C).any (·.hasDict)=true
 makes:makesIn K C=true
 attrs:∀ a∈attrNames,findIn K (.ref C) (Str.ofString a)=some none
theorem jbe{x y:String}{t:Tok}:Value.isStr (.str (Str.ofString x) t) (Str.ofString y)=decide (x=y):=by
 rw [← str_beq];rfl
structure jaK(P:Pm)(h:Heap)(y:String)(fs:List (String×MV))(es:List DictEntry):Prop where
 f:Found P h (lkF fs y) ((es.find? (·.key.isStr (Str.ofString y))).map (·.val))
 r:es.any (·.refKey)=false
theorem zL{P:Pm}{h:Heap}{y:String}{fs es}(q:FsAre P h fs es):jaK P h y fs es:=by
 refine Pw.ind (G:=jaK P h y) ⟨⟨rfl,fun _ e=>nomatch e⟩,rfl⟩ (fun f e fs es z _ ih=>?_) q
 obtain ⟨⟨t,hk⟩,hv⟩:=z
 refine ⟨?_,?_⟩
 ·rw [qM (p:=fun e:DictEntry=>e.key.isStr (Str.ofString y)) (f:=fun e=>e.val)]
  exact ih.f.ite (by rw [hk];exact jbe) hv
 ·rw [List.any_cons,ih.r,DictEntry.refKey,hk];rfl
theorem UU{P:Pm}{h:Heap}{fs es}(q:FsAre P h fs es):fs.length=es.length:=Pw.length q
theorem ui{y:Str}{es:Array DictEntry}{n:Nat}(h:es.toList.any (·.refKey)=false):lookIn y (yy es n)=some ((es.toList.find? (·.key.isStr y)).map (·.val)):=by
 unfold lookIn
 dsimp only
 cases z:es.toList.find? (·.key.isStr y) with
 |none=>rw [h];rfl
 |some e=>rfl
theorem jby{P:Pm}{h:Heap}{y:String}{fs:List (String×MV)}{es:Array DictEntry}{n:Nat}(q:FsAre P h fs es.toList){u:MV}(e:lkF fs y=some u):∃ v,lookIn (Str.ofString y) (yy es n)=some (some v)/\V P h u v :=
 ((zL q).f.2 u e).imp fun v z=>⟨(ui (zL (y:=y) q).r).trans (congrArg some z.1),z.2⟩
theorem O0{P:Pm}{h:Heap}{y:String}{fs:List (String×MV)}{es:Array DictEntry}{n:Nat}(q:FsAre P h fs es.toList)(e:lkF fs y=none):lookIn (Str.ofString y) (yy es n)=some none:=by
 rw [ui (zL (y:=y) q).r]
 refine congrArg some (Option.isSome_eq_false_iff.mp ?_ |> Option.isNone_iff_eq_none.mp)
 rw [← (zL (y:=y) q).f.1,e];rfl
noncomputable def jcK(p:DictEntry->Bool)(v:Value)(ne:DictEntry):List DictEntry->List DictEntry
 |[]=>[ne]
 |e::es=>bif p e then { e with val:=v }::es else e::jcK p v ne es
theorem jbq{p:DictEntry->Bool}{v:Value}{ne:DictEntry}(es:List DictEntry):jcK p v ne es=match es.findIdx? p with | some i=>es.modify i fun e=>{ e with val:=v } | none=>es++[ne]:=by
 induction es with
 |nil=>rfl
 |cons e es ih =>
  show (bif p e then _ else _)=_
  rw [List.findIdx?_cons,ih]
  cases p e with
  |true=>rfl
  |false =>
   cases es.findIdx? p with
   |none=>rfl
   |some i=>rfl
theorem jfk{P:Pm}{h:Heap}{x:String}{u:MV}{v:Value}{ne:DictEntry}{t:Tok}(hk:ne.key=.str (Str.ofString x) t)(hn:ne.val=v)(hv:V P h u v){fs es}(q:FsAre P h fs es):FsAre P h (Z9 fs x u) (jcK (·.key.isStr (Str.ofString x)) v ne es):=by
 refine Pw.ind (G:=fun fs es=>FsAre P h (Z9 fs x u) (jcK (·.key.isStr (Str.ofString x)) v ne es)) (Pw.cons ⟨⟨t,hk⟩,hn▸hv⟩ .nil) (fun f e fs es z q ih=>?_) q
 show FsAre P h (if f.1=x then (f.1,u)::fs else f::Z9 fs x u) (bif e.key.isStr (Str.ofString x) then _ else _)
 have:e.key.isStr (Str.ofString x)=decide (f.1=x):=z.1.elim fun t y=>by rw [y];exact jbe
 rw [this]
 by_cases hx:f.1=x
 ·rw [if_pos hx,decide_eq_true hx];exact Pw.cons ⟨z.1,hv⟩ q
 ·rw [if_neg hx,decide_eq_false hx];exact Pw.cons z ih
section
variable {P:Pm}{A:Around}{s:Shared}{st:St}{K:Frag}
theorem Ul{mv:MV}{v:Value}{h:Heap}(e:V P h mv v):handedIn v=true:=by
 cases mv with
 |none=>rw [show v=_ from e];rfl
 |bool b=>rw [show v=_ from e];rfl
 |int i=>obtain ⟨t,e⟩:=e;rw [e];rfl
 |str i=>obtain ⟨t,e⟩:=e;rw [e];rfl
 |tup xs=>obtain ⟨a,ys,e,_⟩:=e;rw [e];rfl
 |ref a=>rw [show v=_ from e];rfl
 |clist xs=>obtain ⟨a,ys,e,_⟩:=e;rw [e];rfl
theorem qp{h:Heap}{a d C:Nat}{es:Array DictEntry}{n:Nat}(e1:h.get? a=some (instObj C d))(e2:h.get? d=some (yy es n)):InstAt h a (instObj C d) C (some (yy es n)) :=
 ⟨e1,rfl,rfl,e2⟩
theorem jcJ{expr:Bool}{o:MV}{vo:Value}{a:String}{Q:MV->Prop}(S:Sim P st s.heap)(X:K.In s.heap)(ho:V P s.heap o vo)(hc:∀ c C,cl c=some C->GT K C)(ha:a∈attrNames)
  (h:VB o a st Q):wpAny (model prog w) A (getAttr vo (Str.ofString a) expr) (OkV P Q s) NoE s:=by
 change AttrR a st Q o at h
 revert ho
 induction h with
 |mk h1 h2 hq =>
  intro ho
  apply vIs ho
  obtain ⟨C,es,n,hC,e1,e2,hf⟩:=S.rep _ _ h1
  obtain ⟨v,hl,hv⟩:=jby (n:=n) hf h2
  have ok:=hc _ C hC
  refine get_value (v:=v) X (qp e1 e2) ok.ga ?_ (Ul hv) ⟨_,_,hv,hq,rfl⟩
  obtain ⟨cd,hcd,hdict⟩:=any_some ok.dict
  unfold findObj
  rw [hcd,Option.bind_some,ok.attrs _ ha,Option.bind_some]
  simp only [Option.bind_some]
  have:W.ownOf cd (some (yy es n)) (Str.ofString a)=some (some v):=by unfold W.ownOf;rw [hdict,if_pos rfl];exact hl
  rw [this];rfl
inductive jgP (P:Pm) (h:Heap) (a:String) (k:Int) (t:Tok) (v:Value) (es:Array DictEntry) (n:Nat) (fs:List (String×MV)):Prop
 | mk (es':Array DictEntry) (n':Nat) (e:Obj.putName (Str.ofString a) k (.str (Str.ofString a) t) v (yy es n)=yy es' n') (f:FsAre P h fs es'.toList) (z:es'.size≤es.size+1)
theorem jfb{h:Heap}{a:String}{k:Int}{t:Tok}{u:MV}{v:Value}{es:Array DictEntry}{n:Nat}{fs:List (String×MV)}(hu:V P h u v)(hf:FsAre P h fs es.toList):jgP P h a k t v es n (Z9 fs a u):=by
 have g:=jfk (ne:=⟨k,.str (Str.ofString a) t,v⟩) rfl rfl hu (x:=a) hf
 rw [jbq] at g
 have e:es.findIdx? (·.key.isStr (Str.ofString a))=es.toList.findIdx? (·.key.isStr (Str.ofString a)):=by cases es;simp
 have p:Obj.putName (Str.ofString a) k (.str (Str.ofString a) t) v (yy es n)=Obj.putNameByArray (Str.ofString a) k (.str (Str.ofString a) t) v (yy es n):=by rw [Obj.putName_eq]
 unfold Obj.putNameByArray at p
 dsimp only at p
 rw [e] at p
 cases hi:es.toList.findIdx? (·.key.isStr (Str.ofString a)) with
 |some i =>
  rw [hi] at g p
  exact ⟨_,_,p,by rw [Array.toList_modify];exact g,by simp⟩
 |none =>
  rw [hi] at g p
  exact ⟨_,_,p,by rw [Array.toList_push];exact g,by simp⟩
theorem Ui{a b c:Nat}(h1:a=b)(h2:a<100)(h3:c≤b+1):c<1000:=by w_up
theorem gn{o u:MV}{vo v:Value}{a:String}{Q:St->Prop}(S:Sim P st s.heap)(X:K.In s.heap)(ho:V P s.heap o vo)(hu:V P s.heap u v)(hc:∀ c C,cl c=some C->GT K C)(ha:a∈attrNames)
  (h:JI o a u st Q):wpAny (model prog w) A (setAttr vo (Str.ofString a) v) (OkS P Q st s) NoE s:=by
 change SetAttrR a u st Q o at h
 revert ho
 induction h with
 | @mk r d c fs h1 hfl hq =>
  intro ho
  apply vIs ho
  obtain ⟨C,es,n,hC,e1,e2,hf⟩:=S.rep _ _ h1
  have ok:=hc c C hC
  obtain ⟨cd,hcd,hdict⟩:=any_some ok.dict
  have I:=qp e1 e2
  refine set_plain X I ok.sa ?_
  have ht:takerIn K C (Str.ofString a)=some none:=by unfold takerIn;rw [ok.attrs a ha];rfl
  refine osa_open (s:={ s with toks:=s.toks+1 }) X I ok.over ht fun b=>?_
  refine wpAny_bind (wpAny_pure (wpAny_bind (wpAny_bind (wpAny_loadPart e1 (wpAny_bind (Looks.here (s:={ s with toks:=s.toks+1 }) (looks_clsIn X hcd) ?_))))))
  rw [hdict]
  refine wpAny_pure (a:=some d) (wpAny_bind (wpAny_pure (wpAny_bind ?_)))
  unfold nsSet
  refine wpAny_bind (wpAny_bind (wpAny_askSetting (wpAny_pure (wpAny_bind (wpAny_mkText (wpAny_bind (wpAny_loadPart e2 ?_)))))))
  dsimp only
  have hno:aRefKeyMayBeTheName (Str.ofString a) es=false:=by
   rw [aRefKeyMayBeTheName_at,← Array.any_toList,← Array.any_toList,(zL (y:=a) hf).r,Bool.and_false]
  rw [hno]
  obtain ⟨es',n',hp,hf',hz⟩:=jfb (a:=a) (k:=PyData.keyHash w.params (Str.ofString a)) (t:=s.toks+1) (n:=n) hu hf
  refine wpAny_updatePart e2 (show wpAny _ _ _ _ _ { s with heap:=s.heap.update d (Obj.putName (Str.ofString a) (PyData.keyHash w.params (Str.ofString a)) (.str (Str.ofString a) (s.toks+1)) v),toks:=s.toks+2 } from ?_)
  have gd:=Heap.get?_update_self (Obj.putName (Str.ofString a) (PyData.keyHash w.params (Str.ofString a)) (.str (Str.ofString a) (s.toks+1)) v) e2 (by rw [hp];rfl)
  rw [hp] at gd
  have go:∀ b ob,b≠d->s.heap.get? b=some ob->(s.heap.update d (Obj.putName (Str.ofString a) (PyData.keyHash w.params (Str.ofString a)) (.str (Str.ofString a) (s.toks+1)) v)).get? b=some ob :=
   fun b ob hb e=>(Heap.get?_update_other _ _ (Ne.symm hb)).trans e
  generalize s.heap.update d (Obj.putName (Str.ofString a) (PyData.keyHash w.params (Str.ofString a)) (.str (Str.ofString a) (s.toks+1)) v)=h' at gd go ⊢
  clear hp hno ht hdict hcd X I ok ho ha
  have l:=S.link r _ d h1 rfl
  have hrd:r≠d:=fun e=>by rw [e,l] at h1;cases h1
  have hm:Mono P s.heap h':=S.mono_of fun b ob e nw=>go b ob (fun q=>by rw [q,l] at nw;cases nw) e
  refine wpAny_bind (wpAny_lookBehind gd (pastItsLine_dict ?_) (wpAny_pure ⟨_,hq,S.put (x:=d) h1 (.inr rfl) rfl (.inr rfl) go ⟨_,gd,by simp⟩ ⟨C,es',n',hC,go _ _ hrd e1,gd,hf'.mono hm⟩,Go.put (x:=d) h1 (.of l rfl) go⟩))
  have:=Ui (UU hf) hfl hz
  have:=jE;unfold jb at this;w_up
end
theorem Vo{e:Int×Value}{r:List (Int×Value)}{k:Int}{v:Value}(n:e.1∉r.map (·.1)):stored (e::r) k v=if e.1=k then (e.1,v)::r else e::stored r k v:=by
 by_cases h:e.1=k
 ·rw [if_pos h]
  simp only [stored,List.any_cons,h,decide_true,Bool.true_or,if_true,List.map_cons]
  rw [map_store_of_not_mem r k v (h▸n)]
 ·rw [if_neg h]
  unfold stored
  simp only [List.any_cons,h,decide_false,Bool.false_or]
  split
  ·simp [h]
  ·rfl
theorem ZC{P:Pm}{h:Heap}{k:Int}{u:MV}{v:Value}(hv:V P h u v){es:List (Int×MV)}{kvs:List (Int×Value)}(q:KvsAre P h es kvs):(kvs.map (·.1)).Nodup->KvsAre P h (Ju es k u) (stored kvs k v):=by
 refine Pw.ind (G:=fun es kvs=>(kvs.map (·.1)).Nodup->KvsAre P h (Ju es k u) (stored kvs k v)) (fun _=>Pw.cons ⟨rfl,hv⟩ .nil) (fun f e es kvs z q ih nd=>?_) q
 rw [List.map_cons,List.nodup_cons] at nd
 rw [Vo nd.1,z.1]
 show KvsAre P h (if f.1=k then (f.1,u)::es else f::Ju es k u) _
 by_cases hy:f.1=k
 ·rw [if_pos hy,if_pos hy];exact Pw.cons ⟨rfl,hv⟩ q
 ·rw [if_neg hy,if_neg hy];exact Pw.cons z (ih nd.2)
theorem xk{κ:Type}[DecidableEq κ](es:List (κ×MV))(k:κ)(u:MV):(Ju es k u).length≤es.length+1:=by
 induction es with
 |nil=>exact Nat.le_refl _
 |cons f es ih =>
  show (if f.1=k then (f.1,u)::es else f::Ju es k u).length≤_
  by_cases h:f.1=k
  ·rw [if_pos h];exact Nat.le_succ _
  ·rw [if_neg h];exact Nat.succ_le_succ ih
theorem Qn{e:List Int×Addr×Value}{r:List (List Int×Addr×Value)}{k:List Int}{a:Addr}{v:Value}(n:e.1∉r.map (·.1)):storedH (e::r) k a v=if e.1=k then (e.1,e.2.1,v)::r else e::storedH r k a v:=by
 obtain ⟨x,y⟩:=e
 by_cases h:x=k
 ·rw [if_pos h,storedH_old (p:=y) (by simp [atKey,h]),List.map_cons,map_putAt_of_not_mem r k v (h▸n)]
  simp [putAt,h]
 ·rw [if_neg h]
  have e0:atKey ((x,y)::r) k=atKey r k:=by simp only [atKey,List.find?_cons,h,decide_false]
  unfold storedH
  rw [e0]
  split
  ·rw [List.map_cons];simp only [putAt,if_neg h]
  ·rfl
theorem GP{P:Pm}{h:Heap}{x y:Int}{a:Nat}{u:MV}{v:Value}(ha:¬ P.dead a)(hv:V P h u v){es:List ((Int×Int)×MV)}{kvs:List (List Int×Addr×Value)}(q:KksAre P h es kvs):(kvs.map (·.1)).Nodup->KksAre P h (Ju es (x,y) u) (storedH kvs [x,y] a v):=by
 refine Pw.ind (G:=fun es kvs=>(kvs.map (·.1)).Nodup->KksAre P h (Ju es (x,y) u) (storedH kvs [x,y] a v)) (fun _=>Pw.cons ⟨rfl,ha,hv⟩ .nil) (fun f e es kvs z q ih nd=>?_) q
 rw [List.map_cons,List.nodup_cons] at nd
 rw [Qn nd.1]
 show KksAre P h (if f.1=(x,y) then (f.1,u)::es else f::Ju es (x,y) u) _
 by_cases hy:f.1=(x,y)
 ·have z1:=z.1
  rw [hy] at z1
  rw [if_pos hy,if_pos z1];exact Pw.cons ⟨z.1,z.2.1,hv⟩ q
 ·rw [if_neg hy,if_neg fun e=>hy (by rw [z.1] at e;exact Prod.ext (List.cons.inj e).1 (List.cons.inj (List.cons.inj e).2).1)];exact Pw.cons z (ih nd.2)
section
variable {P:Pm}{A:Around}{s:Shared}{st:St}{K:Frag}
theorem X8{E:Value->Shared->Prop}{l:Addr}{items:Array Value}{n:Nat}{k:Int}{t:Tok}{v:Value}{Q:Unit->Shared->Prop}(ho:s.heap.get? l=some (jL items n))
  (h0:0≤k) (hfit:k<2 ^ 63) (hn:k<items.size)
  (hQ:Q () { s with heap:=s.heap.update l (Obj.mapSeq (·.setIfInBounds k.toNat v)) }) :
  wpAny (model prog w) A (setItem (.ref l) (.int k t) v) Q E s:=by
 have hl:s.heap.IsList l items:=⟨_,ho,rfl,_,rfl⟩
 unfold setItem
 try with_reducible refine wpAny_holding ?_
 first | refine wpAny_bind (wpAny_pure ?_) | skip
 refine wpAny_bind (wpAny_sequenceKey hl.typeIs (by decide) ?_)
 refine wpAny_bind (wpAny_callSpecial?_slot (name:=Str.ofString "__setitem__") hl.typeIs slot_list_setitem
  (wpAny_call_entry slot_list_setitem hl.typeIs entry_list_setitem ?_ (args_list_setitem _ _ _)))
 show wpAny _ _ (Builtin.List.listSubscript? (.int k t)>>=_) _ _ s
 refine wpAny_bind (wpAny_listSubscript_int (fitsIndex_of h0 hfit) ?_)
 clear hfit
 obtain ⟨j,rfl⟩:=Int.eq_ofNat_of_zero_le h0
 have hj:j<items.size:=by w_up
 have hx':items[j]? = some items[j]:=Array.getElem?_eq_getElem hj
 show wpAny _ _ ((seqItemAt l j>>=fun r=>pure (r.map (j,·)))>>=_) _ _ s
 refine wpAny_bind (wpAny_bind (wpAny_seqItemAt ho rfl (wpAny_pure ?_)))
 rw [hx']
 show wpAny _ _ (setSeqItemAt l j v>>=_) _ _ s
 refine wpAny_bind (wpAny_setSeqItemAt ho rfl ?_)
 first
  | exact wpAny_bind (wpAny_pure (wpAny_pure ⟨.none,rfl,wpAny_pure hQ⟩))
  | exact wpAny_pure ⟨.none,rfl,wpAny_pure hQ⟩
theorem Z2{h':Heap}{tk:Nat}(S:Sim P st s.heap){a:Nat}{o o':MObj}{Q:St->Prop}{u:Unit}(e:st a=some o')(q:Q (st.put a o))(r:Mono P s.heap h'->Rep P h' a o)(go:∀ b ob,b≠a->s.heap.get? b=some ob->h'.get? b=some ob)
  (hi:o.dct=none:=by rfl) (hw:o'.isOwn=false:=by rfl) (hz:o'.fz=false:=by rfl):OkS P Q st s u { s with heap:=h',toks:=tk }:=by
 have m:Mono P s.heap h':=S.mono_of fun b ob z nw=>go b ob (fun q=>by rw [q] at nw;exact no nw e) z
 exact ⟨_,q,S.put (x:=a) e (.inl hi) hw (.inl rfl) go (r m).ob (r m),Go.put (x:=a) e (.of e hz) go hz⟩
theorem jba{l:Nat}{items:Array Value}{n:Nat}{Q:St->Prop}{u:Unit}(S:Sim P st s.heap)(f:Array Value->Array Value){xs ys:List MV}(e:st l=some (.list xs))(ho:s.heap.get? l=some (jL items n))(q:Q (st.put l (.list ys)))
  (hl:ys.length≤jb) (hv:∀ h',Mono P s.heap h'->Vs P h' ys (f items).toList):OkS P Q st s u { s with heap:=s.heap.update l (Obj.mapSeq f) } :=
 Z2 S e q (fun m=>⟨_,_,Heap.get?_update_self _ ho rfl,hl,hv _ m⟩) fun b ob hb e=>(Heap.get?_update_other _ _ (Ne.symm hb)).trans e
theorem zy{a b:Nat}(h:a=b)(l:a<jb):b≤sizeLine:=Nat.le_of_lt (Nat.lt_trans (h▸l) jE)
theorem jeZ{a b j:Nat}(z:a=b)(l:a≤jb)(h:j<a):(j:Int)<2 ^ 63/\(j:Int)<b:=by unfold jb at l;w_up
theorem UH{o i u:MV}{vo vi v:Value}{Q:St->Prop}(S:Sim P st s.heap)(hs:SysOk P)(hun:A.units+3<cLine)(ho:V P s.heap o vo)(hi:V P s.heap i vi)(hu:V P s.heap u v)(h:Jb o i u st Q) :
  wpAny (model prog w) A (setItem vo vi v) (OkS P Q st s) NoE s:=by
 change SetSubR u st Q o i at h
 revert ho hi
 induction h with
 |l h1 h0 hk hq =>
  intro ho hi
  apply vIs ho;apply yW hi;intro t
  obtain ⟨us,n,e1,hb,v1,z,_⟩:=S.lst h1
  obtain ⟨j,rfl⟩:=Int.eq_ofNat_of_zero_le h0
  rw [Int.toNat_natCast] at hk hq
  have g:=jeZ z hb hk
  exact X8 e1 h0 g.1 g.2 (jba S (·.setIfInBounds j v) h1 e1 hq (by rw [List.length_set];exact hb) fun h' m=>by
   rw [Array.toList_setIfInBounds];exact (v1.mono m).set j (hu.mono m))
 |d h1 hl hq =>
  intro ho hi
  apply vIs ho;apply yW hi;intro t
  obtain ⟨kvs,hd,hbn,hk⟩:=S.rep _ _ h1
  refine wpAny_setItem_pairs (knd:=intKind prog w) vQ hd (fun h' hd' hs'=>?_) (zy (Pw.length hk) hl)
  exact Z2 S h1 hq (fun m=>⟨_,hd',⟨Nat.le_trans (xk _ _ _) hl,hbn.2⟩,ZC (hu.mono m) (hk.mono m) (by obtain ⟨_,_,_,_,_,_,_,_,nd⟩:=hd;exact nd)⟩) fun b ob hb e=>hs'.extBut b ob hb e
 |t h1 hl hq =>
  intro ho hi
  obtain ⟨a,e,hda,hka⟩:=ZQ hi
  apply vIs ho;apply vIs e
  obtain ⟨kvs,hd,hbn,hk⟩:=S.rep _ _ h1
  refine wpAny_setItem_heap (knd:=tupleKind (intKind prog w)) (tupleKind_room_in1 (by w_up)) hka hd (fun h' hd' hs'=>?_) (zy (Pw.length hk) hl)
  exact Z2 S h1 hq (fun m=>⟨_,hd',⟨Nat.le_trans (xk _ _ _) hl,hbn.2⟩,GP hda (hu.mono m) (hk.mono m) (by obtain ⟨_,_,_,_,_,_,_,_,nd⟩:=hd;exact nd)⟩) fun b ob hb e=>hs'.extBut b ob hb e
end
inductive jcs (vs:Array Value) (xs:List Int):Prop
 | mk (ps:Array (Int×Tok)) (e:vs=intItems ps) (z:ps.size=xs.length) (n:∀ i,numAt ps i=xs.getD i 0)
theorem GN{vs:List Value}{xs:List Int}(h:IntsAre vs xs):∃ ps:List (Int×Tok),vs=ps.map (fun p=>Value.int p.1 p.2)/\ps.map (·.1)=xs:=by
 induction h with
 |nil=>exact ⟨[],rfl,rfl⟩
 |cons n t _ ih=>obtain ⟨ps,e,z⟩:=ih;exact ⟨(n,t)::ps,by rw [e];rfl,by rw [← z];rfl⟩
theorem Vw{vs:Array Value}{xs:List Int}(h:IntsAre vs.toList xs):jcs vs xs:=by
 obtain ⟨ps,e,z⟩:=GN h
 refine ⟨ps.toArray,?_,by rw [← z];simp,fun i=>?_⟩
 ·apply Array.toList_inj.mp;rw [e];simp [intItems]
 ·rw [← z];unfold numAt;simp [List.getD_eq_getElem?_getD]
theorem Qh{f g:Nat->Int}(n:Nat)(h:∀ i,i<n->f i=g i):preSum f n=preSum g n:=by
 induction n with
 |zero=>rfl
 |succ n ih=>rw [preSum,preSum,ih fun i hi=>h i (Nat.lt_succ_of_lt hi),h n (Nat.lt_succ_self n)]
theorem Oz{a b n:Int}(h1:0≤a)(h2:a≤10000*n)(h3:0≤b/\b<10000):0≤b+a/\b+a≤10000*(n+1):=by w_up
theorem gB{xs:List Int}(h:∀ x∈xs,0≤x/\x<10000):0≤xs.sum/\xs.sum≤10000*(xs.length:Int):=by
 induction xs with
 |nil=>exact ⟨Int.le_refl _,Int.le_refl _⟩
 |cons x xs ih =>
  have i:=ih fun y hy=>h y (List.mem_cons_of_mem _ hy)
  rw [List.sum_cons,List.length_cons]
  exact Oz i.1 i.2 (h x List.mem_cons_self)
theorem VF{xs:List Int}(h:∀ x∈xs,0≤x/\x<10000)(l:xs.length≤100):InLong xs.sum:=by
 have b:=gB h
 unfold InLong;w_up
theorem zI{α:Type}{xs:List α}{d:α}{i:Nat}(h:i<xs.length):xs.getD i d=xs[i]:=by
 rw [List.getD_eq_getElem?_getD,List.getElem?_eq_getElem h];rfl
section
variable {P:Pm}{A:Around}{s:Shared}{st:St}{K:Frag}
theorem Post.kept{K:MV->St->Prop}{mv:MV}{v:Value}{h':Heap}{tk:Nat}(S:Sim P st s.heap)(k:K mv st)(kp:∀ b o,s.heap.get? b=some o->h'.get? b=some o)(hv:V P h' mv v) :
  Post P st s K v { s with heap:=h',toks:=tk } :=
 ⟨mv,st,k,hv,S.keeps kp,⟨_,_,rfl⟩,fun b o e _=>kp b o e,fun b q=>.inl q⟩
theorem uH{a b:Nat}(h:a=b)(l:a≤jb):b<2 ^ 62:=by unfold jb at l;w_up
theorem ot{r:Nat}{xs:List MV}{Q:MV->St->Prop}(S:Sim P st s.heap)(h1:st r=some (.list xs))(hq:Q (.int xs.length) st):wpAny (model prog w) A (call (.builtin "len") [.ref r]) (Post P st s Q) NoE s:=by
 obtain ⟨us,n,e1,hb,v1,z,L⟩:=S.lst h1
 exact Calls.call_len_list L (by have:=uH z hb;w_up) (.tok S hq ⟨_,by rw [z]⟩)
theorem jaY{r:Nat}{es:List (Int×MV)}{Q:MV->St->Prop}(S:Sim P st s.heap)(hs:SysOk P)(h1:st r=some (.idict es))(hq:Q (.int es.length) st):wpAny (model prog w) A (call (.builtin "len") [.ref r]) (Post P st s Q) NoE s:=by
 obtain ⟨kvs,hd,hbl,hk⟩:=S.rep _ _ h1
 exact PySem.call_len_dict (Y0 S hs h1) hd (by have:=uH (Pw.length hk) hbl.1;w_up) (.tok S hq ⟨_,by rw [Pw.length hk]⟩)
theorem jdR{x:Int}{v:Value}{Q:MV->St->Prop}(S:Sim P st s.heap)(hv:V P s.heap (.int x) v)(h:Q (.int x.natAbs) st) :
  wpAny (model prog w) A (call (.builtin "abs") [v]) (Post P st s Q) NoE s:=by
 apply yW hv;intro t
 refine call_abs_int fun u tk=>.tok S h ⟨u,congrArg (Value.int · u) ?_⟩
 split<;>w_up
theorem jdE{r:Nat}{xs:List Int}{Q:MV->St->Prop}(S:Sim P st s.heap)(hh:A.handled=none)(h1:st r=some (.list (xs.map .int)))(hl:xs.length≤100)(hx:∀ x∈xs,0≤x/\x<10000)(hq:Q (.int xs.sum) st) :
  wpAny (model prog w) A (call (.builtin "sum") [.ref r]) (Post P st s Q) NoE s:=by
 obtain ⟨us,n,e1,hb,v1,_,L⟩:=S.lst h1
 obtain ⟨ps,rfl,hsz,hn⟩:=Vw (Vs.ints.mp v1)
 have hps:∀ k,k≤xs.length->preSum (numAt ps) k=(xs.take k).sum:=fun k hk=>by
  rw [Qh (g:=fun i=>xs.getD i 0) k (fun i _=>hn i),preSum_getD]
 refine sum_intList hh L (fun j hj=>?_) fun h' tk t' kp=>.kept S hq kp ⟨t',by rw [hsz,hps _ (Nat.le_refl _),List.take_length]⟩
 rw [hsz] at hj
 constructor
 ·rw [hn j,zI hj]
  have:=VF (xs:=[xs[j]]) (fun y hy=>List.mem_singleton.mp hy▸hx _ (List.getElem_mem hj)) (Nat.le_add_left 1 99)
  rwa [List.sum_cons,List.sum_nil,Int.add_zero] at this
 ·rw [hps (j+1) hj]
  exact VF (fun y hy=>hx y (List.mem_of_mem_take hy)) (Nat.le_trans (List.length_take ..▸Nat.min_le_right ..) hl)
theorem jbC{r:Nat}{xs:List Int}{Q:MV->St->Prop}(S:Sim P st s.heap)(hh:A.handled=none)(h1:st r=some (.list (xs.map .int)))(hne:xs≠[])(hq:∀ m,m∈xs->(∀ y∈xs,y≤m)->Q (.int m) st) :
  wpAny (model prog w) A (call (.builtin "max") [.ref r]) (Post P st s Q) NoE s:=by
 obtain ⟨us,n,e1,hb,v1,_,L⟩:=S.lst h1
 obtain ⟨ps,rfl,hsz,hn⟩:=Vw (Vs.ints.mp v1)
 have hpos:0<ps.size:=hsz▸List.length_pos_iff.mpr hne
 refine max_intList hh L hpos fun v h' tk hv kp=>?_
 obtain ⟨t,rfl⟩:=intItems_at hv
 obtain ⟨hle,hbest⟩:=argBest_gt (numAt ps) (ps.size - 1)
 generalize argBest (fun i j=>decide (numAt ps i > numAt ps j)) (ps.size - 1)=j at hle hbest ⊢
 have hget:∀ i (hi:i<xs.length),numAt ps i=xs[i]:=fun i hi=>(hn i).trans (zI hi)
 have hj:j<xs.length:=hsz▸Nat.lt_of_le_of_lt hle (Nat.sub_lt hpos Nat.one_pos)
 refine .kept S (hq (numAt ps j) (hget j hj▸List.getElem_mem hj) fun y hy=>?_) kp ⟨t,rfl⟩
 obtain ⟨i,hi,rfl⟩:=List.getElem_of_mem hy
 rw [← hget i hi];exact hbest i (Nat.le_sub_one_of_lt (hsz▸hi))
theorem jbE{x y:Int}{v u:Value}{Q:MV->St->Prop}(S:Sim P st s.heap)(hh:A.handled=none)(hv:V P s.heap (.int x) v)(hu:V P s.heap (.int y) u)(h:Q (.int (max x y)) st) :
  wpAny (model prog w) A (call (.builtin "max") [v,u]) (Post P st s Q) NoE s:=by
 apply yW hv;intro t;apply yW hu;intro t'
 refine max_two_ints hh fun h' tk kp=>.kept S h kp ?_
 show ∃ t,_=_
 split
 ·exact ⟨t',congrArg (Value.int · t') (by w_up)⟩
 ·exact ⟨t,congrArg (Value.int · t) (by w_up)⟩
theorem jaS{r:Nat}{xs:List MV}{Q:MV->St->Prop}(S:Sim P st s.heap)(h1:st r=some (.list xs))(hq:Q (.tup xs) st) :
  wpAny (model prog w) A (call (.type "tuple") [.ref r]) (Post P st s Q) NoE s:=by
 obtain ⟨us,n,e1,hb,v1,z,L⟩:=S.lst h1
 refine call_tuple_list L (fun h' kp=>?_) (Nat.le_of_lt (Nat.lt_of_le_of_lt (z▸hb) jE))
 have kp':∀ b o,s.heap.get? b=some o->(h'.push { cls:=.type "tuple",data:=.seq us }).get? b=some o:=fun b o e=>jf _ _ _ _ (kp b o e)
 have n:s.heap.get? h'.objs.size=none:=by
  cases z:s.heap.get? h'.objs.size with
  |none=>rfl
  |some o=>exact no (j3 _) (kp _ _ z)
 exact .kept (tk:=s.toks) S hq kp' (gl S kp' n ⟨_,j8 _ _ rfl,rfl,_,rfl⟩ hb v1)
theorem Uz{xs:List Bool}{n:Nat}(h:xs.length=n):(List.range n).any (fun i=>xs.getD i false)=xs.any id:=by
 subst h
 rw [Bool.eq_iff_iff,List.any_eq_true,List.any_eq_true]
 refine ⟨fun ⟨i,hi,hx⟩=>?_,fun ⟨x,hx,hxt⟩=>?_⟩
 ·have hi:=List.mem_range.mp hi
  exact ⟨_,List.getElem_mem hi,zI hi▸hx⟩
 ·obtain ⟨i,hi,rfl⟩:=List.getElem_of_mem hx
  exact ⟨i,List.mem_range.mpr hi,zI hi▸hxt⟩
theorem jcz{h:Heap}{xs:List Bool}{us:Array Value}{i:Nat}{v:Value}(v1:Vs P h (xs.map .bool) us.toList)(z:xs.length=us.size)(hp:us[i]? = some v):v=.bool (xs.getD i false):=by
 have hi:i<xs.length:=z▸(Array.getElem?_eq_some_iff.mp hp).1
 obtain ⟨v',hv',hV⟩:=v1.get (x:=.bool xs[i]) i (by rw [List.getElem?_map,List.getElem?_eq_getElem hi];rfl)
 rw [Array.getElem?_toList,hp] at hv'
 rw [zI hi]
 exact (Option.some.inj hv').trans hV
theorem jeD{r:Nat}{xs:List Bool}{Q:MV->St->Prop}(S:Sim P st s.heap)(hh:A.handled=none)(h1:st r=some (.list (xs.map .bool)))(hq:Q (.bool (xs.any id)) st) :
  wpAny (model prog w) A (call (.builtin "any") [.ref r]) (Post P st s Q) NoE s:=by
 obtain ⟨us,n,e1,hb,v1,z,L⟩:=S.lst h1
 rw [List.length_map] at z
 refine call_any_walk (wpAny_pyIter_list L ?_)
 refine ⟨_,_,_,_,_,_,fun i=>xs.getD i false,rfl,Walks.list (A:=A.in1) hh _ r (Nat.ne_of_lt (Heap.lt_size e1)) us,⟨⟨_,j8 _ _ rfl,rfl,rfl⟩,L.push _⟩,fun i v s' Q' E' hp hQ=>?_,fun h' tk kp=>?_⟩
 ·apply vIs (jcz v1 z hp);exact wpAny_truthy_bool hQ
 ·rw [Uz z]
  refine .kept S hq (fun b o z=>kp b o ?_ (jf _ _ _ _ z)) rfl
  rw [List.mem_singleton]
  exact Nat.ne_of_lt (Heap.lt_size z)
theorem jcb{r:Nat}{es:List (Int×MV)}{Q:MV->St->Prop}(S:Sim P st s.heap)(hs:SysOk P)(h1:st r=some (.idict es))(hq:jq st (.idict es) Q) :
  wpAny (model prog w) A (call (.type "dict") [.ref r]) (Post P st s Q) NoE s:=by
 obtain ⟨kvs,hd,hbl,hk⟩:=S.rep _ _ h1
 refine kt_call_dict (Y0 S hs h1) hd (Nat.le_of_lt (Nat.lt_of_le_of_lt (Pw.length hk▸hbl.1) jE)) fun h' hd' hs'=>?_
 have hfr:=j3 s.heap
 have kp:∀ b o,s.heap.get? b=some o->h'.get? b=some o:=fun b o e=>hs'.extBut b o (Nat.ne_of_lt (Heap.lt_size e)) (jf _ _ _ _ e)
 exact ⟨.ref s.heap.objs.size,_,hq _ (S.st_none hfr),rfl,S.alloc hfr kp ⟨kvs,hd',⟨hbl.1,hs.ne S.keep (Nat.le_refl _)⟩,hk.mono (S.monoK kp)⟩,Go.alloc (tk:=s.toks) hfr kp⟩
end
section
variable {A:Around}{E:Value->Shared->Prop}{s:Shared}
theorem zZ{it t:Addr}{i:Nat}{items}{x:Value}{Q:Value->Shared->Prop}(hit:s.heap.IsTupleIter it t i)
  (ht:s.heap.IsTuple t items) (hx:items[i]? = some x)
  (hQ:∀ h',h'.IsTupleIter it t (i+1)->Heap.SameBut it s.heap h'->Q x { s with heap:=h' }) :
  wpAny (model prog w) A (Builtin.SmallTypes.nextOf (.ref it)) Q E s:=by
 obtain ⟨o,ho,hc,hd⟩:=id hit
 obtain ⟨ol,hol,_,nl,hdl⟩:=ht
 unfold Builtin.SmallTypes.nextOf
 refine wpAny_bind (wpAny_callSpecial?_slot (name:=Str.ofString "__next__") hit.typeIs F.slot_tuple_iterator_next
  (wpAny_call_entry F.slot_tuple_iterator_next hit.typeIs F.entry_tuple_iterator_next ?_ (F.args_tuple_iterator_next_1 _)))
 show wpAny _ _ (field (.ref it) 0>>=_) _ _ s
 refine wpAny_bind (wpAny_field ho hd (x:=.ref t) rfl ?_)
 show wpAny _ _ (if (Value.ref t==Value.none)=true then _ else _) _ _ s
 rw [if_neg (show ¬ ((Value.ref t==Value.none)=true) from Bool.false_ne_true)]
 show wpAny _ _ (field (.ref it) 1>>=_) _ _ s
 refine wpAny_bind (wpAny_field ho hd (x:=.int i 0) rfl ?_)
 show wpAny _ _ (seqItems? (.ref t)>>=_) _ _ s
 refine wpAny_bind (wpAny_seqItems hol hdl ?_)
 simp only [Int.toNat_natCast,hx]
 refine wpAny_bind (wpAny_setField ho hd (by simp) (wpAny_pure ⟨x,rfl,wpAny_pure (hQ _ ?_ (Heap.SameBut.update ..))⟩))
 exact ⟨_,Heap.get?_update_self _ ho (Obj.isFreed_of_fields (Obj.data_mapFields hd _)),(Obj.cls_mapFields ..).trans hc,by
  rw [Obj.data_mapFields hd];simp [rawInt]⟩
theorem qK{it t:Addr}{i:Nat}{items}{Q:Value->Shared->Prop}(hh:A.handled=none)
  (hit:s.heap.IsTupleIter it t i) (ht:s.heap.IsTuple t items) (hx:items[i]? = none)
  (hE:∀ h' e,Heap.ExtBut it s.heap h'->(∃ o,h'.get? e=some o/\o.cls=.type "StopIteration")->E (.ref e) { s with heap:=h' }) :
  wpAny (model prog w) A (Builtin.SmallTypes.nextOf (.ref it)) Q E s:=by
 obtain ⟨o,ho,hc,hd⟩:=id hit
 obtain ⟨ol,hol,_,nl,hdl⟩:=ht
 unfold Builtin.SmallTypes.nextOf
 refine wpAny_bind (wpAny_callSpecial?_slot (name:=Str.ofString "__next__") hit.typeIs F.slot_tuple_iterator_next
  (wpAny_call_entry F.slot_tuple_iterator_next hit.typeIs F.entry_tuple_iterator_next ?_ (F.args_tuple_iterator_next_1 _)))
 show wpAny _ _ (field (.ref it) 0>>=_) _ _ s
 refine wpAny_bind (wpAny_field ho hd (x:=.ref t) rfl ?_)
 show wpAny _ _ (if (Value.ref t==Value.none)=true then _ else _) _ _ s
 rw [if_neg (show ¬ ((Value.ref t==Value.none)=true) from Bool.false_ne_true)]
 show wpAny _ _ (field (.ref it) 1>>=_) _ _ s
 refine wpAny_bind (wpAny_field ho hd (x:=.int i 0) rfl ?_)
 show wpAny _ _ (seqItems? (.ref t)>>=_) _ _ s
 refine wpAny_bind (wpAny_seqItems hol hdl ?_)
 simp only [Int.toNat_natCast,hx]
 refine wpAny_bind (wpAny_rule (wpAny_bind (wpAny_setField ho hd (by simp) ?_)))
 show wpAny _ _ (newExc (.type "StopIteration") []>>=_) _ _ _
 refine wpAny_bind ?_
 simp only [newExc,newTuple]
 refine wpAny_bind (wpAny_newObj_type ?_ (by size_fits))
 refine wpAny_bind (m:=firstArgMember _ _) (wpAny_of_eq (a:=Value.none) (by first | rfl | (simp only [firstArgMember];rfl)) ?_)
 refine wpAny_newObj_type ?_ (by size_fits)
 simp only [raiseNew]
 refine wpAny_bind (wpAny_handled ?_)
 first | rw [show A.in1.handled=none from hh] | rw [hh]
 refine wpAny_bind (wpAny_pure (wpAny_throw ?_))
 exact hE _ _ (((Heap.SameBut.update ..).extBut.push _).push _) ⟨_,Heap.get?_push_size _ rfl,rfl⟩
end
def SIt(k:Bool)(h:Heap)(it a:Addr)(i:Nat):Prop:=match k with | false=>h.IsListIter it a i | true=>h.IsTupleIter it a i
def SSrc(k:Bool)(h:Heap)(a:Addr)(xs:Array Value):Prop:=match k with | false=>h.IsList a xs | true=>h.IsTuple a xs
theorem SIt.extBut{k:Bool}{h h':Heap}{it a b:Addr}{i:Nat}(x:SIt k h it a i)(hs:Heap.ExtBut b h h')(hn:it≠b):SIt k h' it a i:=by
 cases k
 ·exact Heap.IsListIter.extBut x hs hn
 ·exact Heap.IsTupleIter.extBut x hs hn
theorem SSrc.extBut{k:Bool}{h h':Heap}{a b:Addr}{xs:Array Value}(x:SSrc k h a xs)(hs:Heap.ExtBut b h h')(hn:a≠b):SSrc k h' a xs:=by
 cases k
 ·exact Heap.IsList.extBut x hs hn
 ·exact Heap.IsTuple.extBut x hs hn
theorem SIt.keeps{k:Bool}{h h':Heap}{it a:Addr}{i:Nat}(x:SIt k h it a i)(hs:∀ o,h.get? it=some o->h'.get? it=some o):SIt k h' it a i:=by
 cases k<;>exact (let ⟨o,ho,r⟩:=x;⟨o,hs o ho,r⟩)
theorem SSrc.keeps{k:Bool}{h h':Heap}{a:Addr}{xs:Array Value}(x:SSrc k h a xs)(hs:∀ o,h.get? a=some o->h'.get? a=some o):SSrc k h' a xs:=by
 cases k<;>exact (let ⟨o,ho,r⟩:=x;⟨o,hs o ho,r⟩)
theorem SIt.there{k:Bool}{h:Heap}{it a:Addr}{i:Nat}(x:SIt k h it a i):∃ o,h.get? it=some o/\o.cls≠.type "tuple":=by
 cases k
 ·obtain ⟨o,ho,hc,_⟩:=x;exact ⟨o,ho,by rw [hc];simp⟩
 ·obtain ⟨o,ho,hc,_⟩:=x;exact ⟨o,ho,by rw [hc];simp⟩
theorem SSrc.there{k:Bool}{h:Heap}{a:Addr}{xs:Array Value}(x:SSrc k h a xs):∃ o,h.get? a=some o:=by
 cases k<;>exact (let ⟨o,ho,r⟩:=x;⟨o,ho⟩)
section
variable {A:Around}{E:Value->Shared->Prop}{s:Shared}
theorem J3{k:Bool}{it a:Addr}{i:Nat}{items}{x:Value}{Q:Value->Shared->Prop}(hit:SIt k s.heap it a i)(ht:SSrc k s.heap a items)(hx:items[i]? = some x)
  (hQ:∀ h',SIt k h' it a (i+1)->Heap.SameBut it s.heap h'->Q x { s with heap:=h' }):wpAny (model prog w) A (Builtin.SmallTypes.nextOf (.ref it)) Q E s:=by
 cases k
 ·exact wpAny_nextOf_list_item hit ht hx hQ
 ·exact zZ hit ht hx hQ
theorem YJ{k:Bool}{it a:Addr}{i:Nat}{items}{Q:Value->Shared->Prop}(hh:A.handled=none)(hit:SIt k s.heap it a i)(ht:SSrc k s.heap a items)(hx:items[i]? = none)
  (hE:∀ h' e,Heap.ExtBut it s.heap h'->(∃ o,h'.get? e=some o/\o.cls=.type "StopIteration")->E (.ref e) { s with heap:=h' }) :
  wpAny (model prog w) A (Builtin.SmallTypes.nextOf (.ref it)) Q E s:=by
 cases k
 ·exact wpAny_nextOf_list_end hh hit ht hx hE
 ·exact qK hh hit ht hx hE
theorem xi{k:Bool}{it a:Addr}{i:Nat}{items}{x:Value}{Q:Option Value->Shared->Prop}(hit:SIt k s.heap it a i)(ht:SSrc k s.heap a items)(hx:items[i]? = some x)
  (hQ:∀ h',SIt k h' it a (i+1)->Heap.SameBut it s.heap h'->Q (some x) { s with heap:=h' }):wpAny (model prog w) A (pyNext (.ref it)) Q E s:=by
 cases k
 ·exact wpAny_pyNext_list_item hit ht hx hQ
 ·exact wpAny_pyNext_tuple_item hit ht hx hQ
theorem zt{k:Bool}{it a:Addr}{i:Nat}{items}{Q:Option Value->Shared->Prop}(hh:A.handled=none)(hit:SIt k s.heap it a i)(ht:SSrc k s.heap a items)(hx:items[i]? = none)
  (hQ:∀ h',Heap.ExtBut it s.heap h'->Q none { s with heap:=h' }):wpAny (model prog w) A (pyNext (.ref it)) Q E s:=by
 cases k
 ·exact wpAny_pyNext_list_end hh hit ht hx hQ
 ·exact wpAny_pyNext_tuple_end hh hit ht hx hQ
noncomputable def xf(k:Bool)(a:Addr):Obj:=match k with
 |false=>{ cls:=.type "list_iterator",data:=.fields #[.ref a,.int 0 0] }
 |true=>{ cls:=.type "tuple_iterator",data:=.fields #[.ref a,rawInt 0] }
theorem JZ{prog:Program}{w:World}{k:Bool}{a:Addr}{items}{Q:Value->Shared->Prop}(ht:SSrc k s.heap a items)
  (hQ:Q (.ref s.heap.objs.size) { s with heap:=s.heap.push (xf k a) }):wpAny (model prog w) A (pyIter (.ref a)) Q E s:=by
 cases k
 ·exact wpAny_pyIter_list ht hQ
 ·exact wpAny_pyIter_tuple ht hQ
theorem sit_new{k:Bool}{h:Heap}{a:Addr}:SIt k (h.push (xf k a)) h.objs.size a 0:=by
 cases k
 ·exact ⟨_,Heap.get?_push_size _ rfl,rfl,rfl⟩
 ·exact ⟨_,Heap.get?_push_size _ rfl,rfl,rfl⟩
theorem Vg{it:Addr}{target:Expr}{v:Value}{Q:Unit->Shared->Prop}{o:Obj}{T:String}{vs:Array Value}(ho:s.heap.get? it=some o)(hc:o.cls=.type T)(hd:o.data=.fields vs)
  (hT:["enumerate","zip","dict_itemiterator","dict_reverseitemiterator","odict_iterator","itertools.zip_longest","itertools.pairwise"].contains T=false) (hQ:Q () s):wpAny (model prog w) A (letOwnedTupleGo target (.ref it) v) Q E s:=by
 have p:wpAny (model prog w) A (pure ()) Q E s:=wpAny_pure hQ
 have q:wpAny (model prog w) A (letOwnedTupleGo (.Tuple [] 0 ⟨0,0,0,0⟩) (.ref it) v) Q E s:=by
  cases v<;>first | exact p | skip
  refine wpAny_bind (wpAny_load ho ?_)
  rw [hc,hd]
  dsimp only
  rw [hT]
  exact p
 cases target<;>first | exact p | exact q
theorem UX{k:Bool}{it a:Addr}{i:Nat}{target:Expr}{v:Value}{Q:Unit->Shared->Prop}(hit:SIt k s.heap it a i)(hQ:Q () s):wpAny (model prog w) A (letOwnedTupleGo target (.ref it) v) Q E s:=by
 cases k
 ·obtain ⟨o,ho,hc,hd⟩:=hit;exact Vg ho hc hd (by decide) hQ
 ·obtain ⟨o,ho,hc,hd⟩:=hit;exact Vg ho hc hd (by decide) hQ
end
abbrev IsZ(h:Heap)(z:Addr)(f0 f1:Value)(TI TO:Addr):Prop :=
 h.get? z=some { cls:=.type "zip",dict:=none,data:=.fields #[f0,f1,.bool false,.ref TI,.ref TO],slots:=#[] }
structure Zp where
 z:Addr
 TI:Addr
 TO:Addr
 i1:Addr
 i2:Addr
 a1:Addr
 a2:Addr
 k1:Bool
 k2:Bool
structure Jo(p:Zp):Prop where
 TIz:p.TI≠p.z
 TOz:p.TO≠p.z
 i1z:p.i1≠p.z
 i2z:p.i2≠p.z
 TITO:p.TI≠p.TO
 TIi1:p.TI≠p.i1
 TIi2:p.TI≠p.i2
 TOi1:p.TO≠p.i1
 TOi2:p.TO≠p.i2
 i12:p.i1≠p.i2
 a1z:p.a1≠p.z
 a1TO:p.a1≠p.TO
 a1i1:p.a1≠p.i1
 a1i2:p.a1≠p.i2
 a2z:p.a2≠p.z
 a2TO:p.a2≠p.TO
 a2i1:p.a2≠p.i1
 a2i2:p.a2≠p.i2
def Yd(p:Zp)(h h':Heap):Prop:=∀ c o,c≠p.z->c≠p.TO->c≠p.i1->c≠p.i2->h.get? c=some o->h'.get? c=some o
inductive ZF (p:Zp) (h:Heap):Prop
 | free (f1:Value) (e:IsZ h p.z .none f1 p.TI p.TO)
 | held (f1:Value) (T:Nat) (o:Obj) (e:IsZ h p.z (rawInt T) f1 p.TI p.TO) (t:h.get? T=some o) (c:o.cls=.type "tuple")
structure ZSt(p:Zp)(i:Nat)(h:Heap):Prop where
 f:ZF p h
 ti:IsPair h p.TI (.ref p.i1) (.ref p.i2)
 tO:∃ a b,IsPair h p.TO a b
 t1:SIt p.k1 h p.i1 p.a1 i
 t2:SIt p.k2 h p.i2 p.a2 i
structure VH(p:Zp)(i:Nat)(h:Heap):Prop where
 e:∃ f1,IsZ h p.z .none f1 p.TI p.TO
 s:ZSt p i h
structure OA(T:Nat)(p:Zp)(i:Nat)(h:Heap):Prop where
 e:∃ f1,IsZ h p.z (rawInt T) f1 p.TI p.TO
 s:ZSt p i h
def jbA(h:Heap)(e:Nat):Prop:=∃ o,h.get? e=some o/\o.cls=.type "StopIteration"
section
variable {A:Around}{E:Value->Shared->Prop}{s:Shared}{p:Zp}{i:Nat}{xs ys:Array Value}
theorem ZF.at(f:ZF p s.heap):s.TypeIs (.ref p.z) "zip":=by
 cases f with
 |free f1 e=>exact ⟨_,e,rfl⟩
 |held f1 T o e=>exact ⟨_,e,rfl⟩
theorem V2{h:Heap}{e a:Nat}{ob:Obj}(q:jbA h e)(z:h.get? a=some ob)(n:ob.cls≠.type "StopIteration"):e≠a:=fun x=>by
 obtain ⟨o,ho,hc⟩:=q
 rw [x,z] at ho;exact n (Option.some.inj ho▸hc)
def jgy(Q:Value->Shared->Prop)(fin:Fin)(s:Shared):Prop:=∃ v,fin=.done (.ret v)/\Q v s
theorem oV{f1:Value}{Q:Value->Shared->Prop}(hh:A.handled=none)(D:Jo p)(hz:IsZ s.heap p.z .none f1 p.TI p.TO)(Z:ZSt p i s.heap)(hl1:SSrc p.k1 s.heap p.a1 xs)(hl2:SSrc p.k2 s.heap p.a2 ys)
  (hq:∀ x y h',xs[i]? = some x->ys[i]? = some y->OA s.heap.objs.size p (i+1) h'->IsPair h' s.heap.objs.size x y->Yd p s.heap h'->Q (.ref s.heap.objs.size) { s with heap:=h' })
  (hE:∀ h' e,xs[i]? = none\/ys[i]? = none->Yd p s.heap h'->jbA h' e->E (.ref e) { s with heap:=h' }) :
  wpAny (model prog w) A (Builtin.«zip.__next__» ⟨[.ref p.z],[]⟩) (jgy Q) E s:=by
 obtain ⟨a,b,hTO⟩:=Z.tO
 show wpAny _ _ (field (.ref p.z) 2>>=_) _ _ _
 refine wpAny_bind (wpAny_field hz rfl (x:=.bool false) rfl ?_)
 show wpAny _ _ (field (.ref p.z) 3>>=_) _ _ _
 refine wpAny_bind (wpAny_field hz rfl (x:=.ref p.TI) rfl ?_)
 refine wpAny_bind (wpAny_seqItems Z.ti rfl ?_)
 show wpAny _ _ (Builtin.SmallTypes.ownedTupleIsFree (.ref p.z)>>=_) _ _ _
 refine wpAny_bind ?_
 unfold Builtin.SmallTypes.ownedTupleIsFree
 refine wpAny_bind (wpAny_field hz rfl (x:=.none) rfl (wpAny_pure ?_))
 simp only [if_true]
 refine wpAny_bind (wpAny_rule ?_)
 refine wpAny_bind (wpAny_field hz rfl (x:=.ref p.TO) rfl ?_)
 refine wpAny_bind (wpAny_setField_rec hz (by simp) fun h₁ hz₁ hs₁=>?_)
 replace hz₁:IsZ h₁ p.z .ellipsis f1 p.TI p.TO:=hz₁
 have k₁:Yd p s.heap h₁:=fun c o c1 _ _ _ e=>hs₁.extBut _ _ c1 e
 refine wpAny_bind ?_
 simp only [List.zipIdx_cons,List.zipIdx_nil,List.forIn_cons,List.forIn_nil]
 refine wpAny_bind (wpAny_bind (wpAny_onRaise ?_))
 show wpAny _ _ (Builtin.SmallTypes.nextOf (.ref p.i1)>>=_) _ _ _
 cases hx:xs[i]? with
 |none =>
  refine wpAny_bind (YJ hh (Z.t1.extBut hs₁.extBut D.i1z) (hl1.extBut hs₁.extBut D.a1z) hx fun h₂ e hs₂ he=>?_)
  have hz₂:IsZ h₂ p.z .ellipsis f1 p.TI p.TO:=hs₂ _ _ D.i1z.symm hz₁
  exact wpAny_setField_rec hz₂ (by simp) fun h₃ _ hs₃=>hE h₃ e (.inl hx) (fun c o c1 c2 c3 c4 x=>hs₃.extBut _ _ c1 (hs₂ _ _ c3 (k₁ c o c1 c2 c3 c4 x))) (he.imp fun o z=>⟨hs₃.extBut _ _ (V2 he hz₂ (by simp)) z.1,z.2⟩)
 |some x =>
  refine wpAny_bind (J3 (Z.t1.extBut hs₁.extBut D.i1z) (hl1.extBut hs₁.extBut D.a1z) hx fun h₂ h1₂ hs₂=>wpAny_pure ?_)
  have hTO₂:IsPair h₂ p.TO a b:=hs₂.extBut _ _ D.TOi1 (hs₁.extBut _ _ D.TOz hTO)
  refine wpAny_bind (wpAny_seqItems hTO₂ rfl ?_)
  refine wpAny_bind (wpAny_updateSeq_pair hTO₂ fun h₃ hTO₃ hs₃=>?_)
  replace hTO₃:IsPair h₃ p.TO x b:=hTO₃
  have hz₃:IsZ h₃ p.z .ellipsis f1 p.TI p.TO:=hs₃.extBut _ _ D.TOz.symm (hs₂.extBut _ _ D.i1z.symm hz₁)
  have k₃:Yd p s.heap h₃:=fun c o c1 c2 c3 c4 e=>hs₃.extBut _ _ c2 (hs₂.extBut _ _ c3 (k₁ c o c1 c2 c3 c4 e))
  have t1₃:=h1₂.extBut hs₃.extBut D.TOi1.symm
  have t2₃:=((Z.t2.extBut hs₁.extBut D.i2z).extBut hs₂.extBut D.i12.symm).extBut hs₃.extBut D.TOi2.symm
  have l2₃:=((hl2.extBut hs₁.extBut D.a2z).extBut hs₂.extBut D.a2i1).extBut hs₃.extBut D.a2TO
  have n₃:h₃.objs.size=s.heap.objs.size:=by rw [hs₃.1,hs₂.1,hs₁.1]
  clear hs₃ hs₂ hs₁ k₁ hz₁ h1₂ hTO₂
  refine wpAny_bind (wpAny_letGo (wpAny_pure ?_))
  refine wpAny_bind (wpAny_bind (wpAny_onRaise ?_))
  show wpAny _ _ (Builtin.SmallTypes.nextOf (.ref p.i2)>>=_) _ _ _
  cases hy:ys[i]? with
  |none =>
   refine wpAny_bind (YJ hh t2₃ l2₃ hy fun h₄ e hs₄ he=>?_)
   have hz₄:IsZ h₄ p.z .ellipsis f1 p.TI p.TO:=hs₄ _ _ D.i2z.symm hz₃
   exact wpAny_setField_rec hz₄ (by simp) fun h₅ _ hs₅=>hE h₅ e (.inr hy) (fun c o c1 c2 c3 c4 x=>hs₅.extBut _ _ c1 (hs₄ _ _ c4 (k₃ c o c1 c2 c3 c4 x))) (he.imp fun o z=>⟨hs₅.extBut _ _ (V2 he hz₄ (by simp)) z.1,z.2⟩)
  |some y =>
   refine wpAny_bind (J3 t2₃ l2₃ hy fun h₄ t2₄ hs₄=>wpAny_pure ?_)
   have hTO₄:IsPair h₄ p.TO x b:=hs₄.extBut _ _ D.TOi2 hTO₃
   refine wpAny_bind (wpAny_seqItems hTO₄ rfl ?_)
   refine wpAny_bind (wpAny_updateSeq_pair hTO₄ fun h₅ hTO₅ hs₅=>?_)
   replace hTO₅:IsPair h₅ p.TO x y:=hTO₅
   have hz₅:IsZ h₅ p.z .ellipsis f1 p.TI p.TO:=hs₅.extBut _ _ D.TOz.symm (hs₄.extBut _ _ D.i2z.symm hz₃)
   have k₅:Yd p s.heap h₅:=fun c o c1 c2 c3 c4 e=>hs₅.extBut _ _ c2 (hs₄.extBut _ _ c4 (k₃ c o c1 c2 c3 c4 e))
   have t1₅:=(t1₃.extBut hs₄.extBut D.i12).extBut hs₅.extBut D.TOi1.symm
   have t2₅:=t2₄.extBut hs₅.extBut D.TOi2.symm
   have n₅:h₅.objs.size=s.heap.objs.size:=by rw [hs₅.1,hs₄.1,n₃]
   clear hs₅ hs₄ k₃ hz₃ t1₃ t2₃ l2₃ t2₄ hTO₄ hTO₃ n₃
   refine wpAny_bind (wpAny_letGo (wpAny_pure (wpAny_pure ?_)))
   refine wpAny_bind (wpAny_seqItems hTO₅ rfl ?_)
   refine wpAny_bind (wpAny_newTuple ?_)
   show wpAny _ _ (Builtin.SmallTypes.ownedTupleHandOut (.ref p.z) (.ref h₅.objs.size)>>=_) _ _ _
   refine wpAny_bind ?_
   unfold Builtin.SmallTypes.ownedTupleHandOut
   refine wpAny_bind (wpAny_setField_rec (jf _ { cls:=.type "tuple",data:=.seq #[x,y] } _ _ hz₅) (by simp) fun h₇ hz₇ hs₇=>?_)
   refine wpAny_setField_rec hz₇ (by simp) fun h₈ hz₈ hs₈=>?_
   have up:∀ c o,c≠p.z->(h₅.push { cls:=.type "tuple",data:=.seq #[x,y] }).get? c=some o->h₈.get? c=some o:=fun c o c1 e=>hs₈.extBut _ _ c1 (hs₇.extBut _ _ c1 e)
   have hT₈:IsPair h₈ h₅.objs.size x y:=up _ _ (Nat.ne_of_gt (Heap.lt_size hz₅)) (j8 _ _ rfl)
   have up:∀ c o,c≠p.z->h₅.get? c=some o->h₈.get? c=some o:=fun c o c1 e=>up c o c1 (jf _ _ _ _ e)
   refine wpAny_pure ⟨_,rfl,?_⟩
   show Q (.ref h₅.objs.size) _
   replace hz₈:IsZ h₈ p.z (rawInt h₅.objs.size) (.bool false) p.TI p.TO:=hz₈
   rw [n₅] at hz₈ hT₈ ⊢
   exact hq x y h₈ hx hy ⟨⟨_,hz₈⟩,.held _ _ _ hz₈ hT₈ rfl,up _ _ D.TIz (k₅ _ _ D.TIz D.TITO D.TIi1 D.TIi2 Z.ti),⟨_,_,up _ _ D.TOz hTO₅⟩,t1₅.keeps fun o e=>up _ o D.i1z e,t2₅.keeps fun o e=>up _ o D.i2z e⟩ hT₈ fun c o c1 c2 c3 c4 e=>up c o c1 (k₅ c o c1 c2 c3 c4 e)
theorem OJ{T:Nat}{o:Obj}{f1:Value}{Q:Bool->Shared->Prop}(hz:IsZ s.heap p.z (rawInt T) f1 p.TI p.TO)(hT:s.heap.get? T=some o)
  (hQ:∀ h' f1',IsZ h' p.z (rawInt T) f1' p.TI p.TO->Heap.SameBut p.z s.heap h'->Q false { s with heap:=h' }) :
  wpAny (model prog w) A (Builtin.SmallTypes.ownedTupleIsFree (.ref p.z)) Q E s:=by
 unfold Builtin.SmallTypes.ownedTupleIsFree
 refine wpAny_bind (wpAny_field hz rfl (x:=rawInt T) rfl ?_)
 show wpAny _ _ (loadIfAlive T>>=_) _ _ _
 refine wpAny_bind (kdx_alive hT ?_)
 simp only [Option.isNone_some,Bool.false_eq_true,if_false]
 refine wpAny_bind (wpAny_field hz rfl (x:=f1) rfl ?_)
 refine wpAny_ite_split (fun _=>?_) (fun _=>?_)
 ·first
   | (refine wpAny_bind (wpAny_setField_rec hz (by simp) fun h₁ hz₁ hs₁=>?_)
      exact wpAny_pure (hQ h₁ _ hz₁ hs₁))
 ·first
   | exact wpAny_pure (hQ _ _ hz (Heap.SameBut.refl ..))
   | exact wpAny_bind (wpAny_pure (wpAny_pure (hQ _ _ hz (Heap.SameBut.refl ..))))
theorem oE{k:Bool}{h:Heap}{it a T:Nat}{i:Nat}{o:Obj}(t:SIt k h it a i)(e:h.get? T=some o)(c:o.cls=.type "tuple"):T≠it:=fun q=>by
 obtain ⟨ob,e1,e2⟩:=t.there
 rw [q,e1] at e;exact e2 (Option.some.inj e▸c)
theorem jaa{T:Nat}{o:Obj}{f1:Value}{Q:Value->Shared->Prop}(hh:A.handled=none)(D:Jo p)(hz:IsZ s.heap p.z (rawInt T) f1 p.TI p.TO)(hT:s.heap.get? T=some o)(hTc:o.cls=.type "tuple")(Z:ZSt p i s.heap)(hl1:SSrc p.k1 s.heap p.a1 xs)(hl2:SSrc p.k2 s.heap p.a2 ys)
  (hq:∀ x y h',xs[i]? = some x->ys[i]? = some y->ZSt p (i+1) h'->IsPair h' s.heap.objs.size x y->Yd p s.heap h'->Q (.ref s.heap.objs.size) { s with heap:=h' })
  (hE:∀ h' e,xs[i]? = none\/ys[i]? = none->Yd p s.heap h'->jbA h' e->E (.ref e) { s with heap:=h' }) :
  wpAny (model prog w) A (Builtin.«zip.__next__» ⟨[.ref p.z],[]⟩) (jgy Q) E s:=by
 obtain ⟨a,b,hTO⟩:=Z.tO
 have hTz:T≠p.z:=fun e=>by rw [e,hz] at hT;rw [← Option.some.inj hT] at hTc;simp at hTc
 have hT1:=oE Z.t1 hT hTc
 have hT2:=oE Z.t2 hT hTc
 show wpAny _ _ (field (.ref p.z) 2>>=_) _ _ _
 refine wpAny_bind (wpAny_field hz rfl (x:=.bool false) rfl ?_)
 show wpAny _ _ (field (.ref p.z) 3>>=_) _ _ _
 refine wpAny_bind (wpAny_field hz rfl (x:=.ref p.TI) rfl ?_)
 refine wpAny_bind (wpAny_seqItems Z.ti rfl ?_)
 show wpAny _ _ (Builtin.SmallTypes.ownedTupleIsFree (.ref p.z)>>=_) _ _ _
 refine wpAny_bind (OJ hz hT fun h₁ f1' hz₁ hs₁=>?_)
 simp only [Bool.false_eq_true,if_false]
 refine wpAny_bind ?_
 rw [← Array.forIn_toList]
 simp only [List.forIn_cons,List.forIn_nil]
 refine wpAny_bind (wpAny_bind (wpAny_holding ?_))
 show wpAny _ _ (Builtin.SmallTypes.nextOf (.ref p.i1)>>=_) _ _ _
 cases hx:xs[i]? with
 |none=>exact wpAny_bind (YJ hh (Z.t1.extBut hs₁.extBut D.i1z) (hl1.extBut hs₁.extBut D.a1z) hx fun h₂ e hs₂ he=>hE h₂ e (.inl hx) (fun c o c1 _ c3 _ x=>hs₂ _ _ c3 (hs₁.extBut _ _ c1 x)) he)
 |some x =>
  refine wpAny_bind (J3 (Z.t1.extBut hs₁.extBut D.i1z) (hl1.extBut hs₁.extBut D.a1z) hx fun h₂ h1₂ hs₂=>wpAny_pure (wpAny_pure ?_))
  dsimp only
  refine wpAny_bind (wpAny_bind (wpAny_holding ?_))
  show wpAny _ _ (Builtin.SmallTypes.nextOf (.ref p.i2)>>=_) _ _ _
  have t2:=(Z.t2.extBut hs₁.extBut D.i2z).extBut hs₂.extBut D.i12.symm
  have l2:=(hl2.extBut hs₁.extBut D.a2z).extBut hs₂.extBut D.a2i1
  cases hy:ys[i]? with
  |none=>exact wpAny_bind (YJ hh t2 l2 hy fun h₃ e hs₃ he=>hE h₃ e (.inr hy) (fun c o c1 _ c3 c4 x=>hs₃ _ _ c4 (hs₂.extBut _ _ c3 (hs₁.extBut _ _ c1 x))) he)
  |some y =>
   refine wpAny_bind (J3 t2 l2 hy fun h₃ h2₃ hs₃=>wpAny_pure (wpAny_pure (wpAny_pure ?_)))
   dsimp only
   have hsz:h₃.objs.size=s.heap.objs.size:=by rw [hs₃.1,hs₂.1,hs₁.1]
   have up:∀ c o,c≠p.z->c≠p.i1->c≠p.i2->s.heap.get? c=some o->(h₃.push { cls:=.type "tuple",data:=.seq #[x,y] }).get? c=some o :=
    fun c o c1 c3 c4 e=>jf _ _ _ _ (hs₃.extBut _ _ c4 (hs₂.extBut _ _ c3 (hs₁.extBut _ _ c1 e)))
   refine wpAny_bind (wpAny_newTuple (hsz:=by rw [sizeLine_eq];simp) (wpAny_pure ⟨_,rfl,?_⟩))
   show Q (.ref h₃.objs.size) _
   rw [hsz]
   exact hq x y (h₃.push { cls:=.type "tuple",data:=.seq #[x,y] }) hx hy ⟨.held _ T o (jf _ _ _ _ (hs₃.extBut _ _ D.i2z.symm (hs₂.extBut _ _ D.i1z.symm hz₁))) (up _ _ hTz hT1 hT2 hT) hTc,
    up _ _ D.TIz D.TIi1 D.TIi2 Z.ti,⟨_,_,up _ _ D.TOz D.TOi1 D.TOi2 hTO⟩,(h1₂.extBut hs₃.extBut D.i12).keeps fun o e=>jf _ _ _ _ e,h2₃.keeps fun o e=>jf _ _ _ _ e⟩
    (hsz▸j8 _ _ rfl) fun c o c1 c2 c3 c4 e=>up c o c1 c3 c4 e
theorem XA{Q:Option Value->Shared->Prop}(hh:A.handled=none)(D:Jo p)(Z:ZSt p i s.heap)(hl1:SSrc p.k1 s.heap p.a1 xs)(hl2:SSrc p.k2 s.heap p.a2 ys)
  (hq:∀ x y h',xs[i]? = some x->ys[i]? = some y->ZSt p (i+1) h'->((∃ f1,IsZ s.heap p.z .none f1 p.TI p.TO)->OA s.heap.objs.size p (i+1) h')->IsPair h' s.heap.objs.size x y->Yd p s.heap h'->Q (some (.ref s.heap.objs.size)) { s with heap:=h' })
  (hE:∀ h',xs[i]? = none\/ys[i]? = none->Yd p s.heap h'->Q none { s with heap:=h' }) :
  wpAny (model prog w) A (pyNext (.ref p.z)) Q E s:=by
 have fin:∀ h' e,xs[i]? = none\/ys[i]? = none->Yd p s.heap h'->jbA h' e->wpAny (model prog w) A (do if ← isInstance (.ref e) (.type "StopIteration") then pure none else throw (.ref e)) Q E { s with heap:=h' }:=fun h' e n k q =>
  q.elim fun o z=>wpAny_bind (wpAny_isInstance (T:="StopIteration") (b:=true) ⟨o,z⟩ isSubtype_stop (wpAny_pure (hE _ n k)))
 have hT:=Z.f.at
 unfold pyNext
 refine wpAny_bind (wpAny_attempt (wpAny_callSpecial?_slot (name:=Str.ofString "__next__") hT F.slot_zip_next
  (wpAny_call_entry F.slot_zip_next hT F.entry_zip_next ?_ (F.args_zip_next_1 _))))
 cases Z.f with
 |free f1 e=>exact oV hh D e Z hl1 hl2 (fun x y h' a b c d k=>wpAny_pure (hq x y h' a b c.s (fun _=>c) d k)) fin
 |held f1 T o e t c=>exact jaa hh D e t c Z hl1 hl2 (fun x y h' a b z d k=>wpAny_pure (hq x y h' a b z (fun ⟨_,q⟩=>absurd (q.symm.trans e) (by simp [rawInt])) d k)) fin
theorem vT{Q:Option Value->Shared->Prop}(hh:A.handled=none)(D:Jo p)(Z:VH p i s.heap)(hl1:SSrc p.k1 s.heap p.a1 xs)(hl2:SSrc p.k2 s.heap p.a2 ys)
  (hq:∀ x y h',xs[i]? = some x->ys[i]? = some y->OA s.heap.objs.size p (i+1) h'->IsPair h' s.heap.objs.size x y->Yd p s.heap h'->Q (some (.ref s.heap.objs.size)) { s with heap:=h' })
  (hE:∀ h',xs[i]? = none\/ys[i]? = none->Yd p s.heap h'->Q none { s with heap:=h' }):wpAny (model prog w) A (pyNext (.ref p.z)) Q E s :=
 XA hh D Z.s hl1 hl2 (fun x y h' a b _ c d k=>hq x y h' a b (c Z.e) d k) hE
theorem jcm{T:Addr}{elts:List Expr}{x1}{pos:Pos}{Q:Unit->Shared->Prop}(D:Jo p)(hst:OA T p i s.heap)
  (hQ:∀ h',VH p i h'->Heap.SameBut p.z s.heap h'->Q () { s with heap:=h' }) :
  wpAny (model prog w) A (letOwnedTupleGo (.Tuple elts x1 pos) (.ref p.z) (.ref T)) Q E s:=by
 obtain ⟨⟨f1,hz⟩,_,hTI,⟨a,b,hTO⟩,h1,h2⟩:=hst
 unfold letOwnedTupleGo
 refine wpAny_bind (wpAny_load hz ?_)
 dsimp only
 refine wpAny_ite_split (fun _=>?_) (fun q=>absurd (by simp [rawInt]) q)
 refine wpAny_bind (wpAny_rule ?_)
 show wpAny _ _ (setField (.ref p.z) 0 .none) Q E s
 exact wpAny_setField_rec hz (by simp) fun h' hz' hs'=>hQ h' ⟨⟨f1,hz'⟩,.free f1 hz',hs'.extBut _ _ D.TIz hTI,⟨a,b,hs'.extBut _ _ D.TOz hTO⟩,h1.extBut hs'.extBut D.i1z,h2.extBut hs'.extBut D.i2z⟩ hs'
end
theorem SSrc.push{k:Bool}{h:Heap}{a:Addr}{xs:Array Value}(x:SSrc k h a xs)(o:Obj):SSrc k (h.push o) a xs:=x.keeps fun _ e=>Heap.get?_push_of_some _ e
noncomputable abbrev zH1(h:Heap)(k1:Bool)(l1:Addr):Heap:=h.push (xf k1 l1)
noncomputable abbrev zH2(h:Heap)(k1 k2:Bool)(l1 l2:Addr):Heap:=(zH1 h k1 l1).push (xf k2 l2)
noncomputable abbrev zH3(h:Heap)(k1 k2:Bool)(l1 l2:Addr):Heap:=(zH2 h k1 k2 l1 l2).push { cls:=.type "tuple",data:=.seq #[.ref h.objs.size,.ref (zH1 h k1 l1).objs.size] }
noncomputable abbrev zH4(h:Heap)(k1 k2:Bool)(l1 l2:Addr):Heap:=(zH3 h k1 k2 l1 l2).push { cls:=.type "tuple",data:=.seq #[.none,.none] }
noncomputable abbrev zH5(h:Heap)(k1 k2:Bool)(l1 l2:Addr):Heap:=(zH4 h k1 k2 l1 l2).push { cls:=.type "zip",data:=.fields #[.none,.bool false,.bool false,.ref (zH2 h k1 k2 l1 l2).objs.size,.ref (zH3 h k1 k2 l1 l2).objs.size] }
theorem XY(k1 k2:Bool)(l1 l2:Addr)(xs ys:Array Value) :
  Meets (Builtin.«zip.__new__» ⟨[.type "zip",.ref l1,.ref l2],[]⟩) (fun _ R s=>SSrc k1 s.heap l1 xs/\SSrc k2 s.heap l2 ys /\
   R (.ok (.ret (.ref (zH4 s.heap k1 k2 l1 l2).objs.size))) { s with heap:=zH5 s.heap k1 k2 l1 l2 }) :=
 .of_wp fun prog w A R s h=>by
  obtain ⟨hp,g,d,tk,os⟩:=s;obtain ⟨hl1,hl2,h⟩:=h
  have hsub:=sub_zip
  have hL1:SSrc k1 (Shared.heap ⟨hp,g,d,tk,os⟩) l1 xs:=hl1
  have hL2:SSrc k2 (Shared.heap ⟨hp.push (xf k1 l1),g,d,tk,os⟩) l2 ys:=hl2.push _
  wp_walk using JZ hL1,JZ hL2
  exact ⟨_,rfl,h⟩
section
variable {A:Around}{E:Value->Shared->Prop}{s:Shared}
noncomputable def jfA(n a1 a2:Nat)(k1 k2:Bool):Zp:=⟨n+4,n+2,n+3,n,n+1,a1,a2,k1,k2⟩
theorem ZU{k1 k2:Bool}{l1 l2:Addr}{xs ys:Array Value}{Q:Value->Shared->Prop}(hl1:SSrc k1 s.heap l1 xs)(hl2:SSrc k2 s.heap l2 ys)
  (h:∀ h',VH (jfA s.heap.objs.size l1 l2 k1 k2) 0 h'->(∀ c o,s.heap.get? c=some o->h'.get? c=some o)->Q (.ref (s.heap.objs.size+4)) { s with heap:=h' }) :
  wpAny (model prog w) A (call (.type "zip") [.ref l1,.ref l2]) Q E s:=by
 refine callType_new F.called_zip (by decide) (F.typeCall_zip_2 _ _) (F.newCall_zip_2 _ _) (fun obj=>F.args_object_init_3 obj _ _) F.entry_zip_new
  (XY k1 k2 l1 l2 xs ys) ⟨hl1,hl2,?_⟩
 have z1:(zH1 s.heap k1 l1).objs.size=s.heap.objs.size+1:=Heap.size_push ..
 have z2:(zH2 s.heap k1 k2 l1 l2).objs.size=s.heap.objs.size+2:=by rw [Heap.size_push,z1]
 have z3:(zH3 s.heap k1 k2 l1 l2).objs.size=s.heap.objs.size+3:=by rw [Heap.size_push,z2]
 have z4:(zH4 s.heap k1 k2 l1 l2).objs.size=s.heap.objs.size+4:=by rw [Heap.size_push,z3]
 have up:∀ {h:Heap}{o o':Obj}{a:Addr},h.get? a=some o->(h.push o').get? a=some o:=fun e=>Heap.get?_push_of_some _ e
 have g5:(zH5 s.heap k1 k2 l1 l2).get? (zH4 s.heap k1 k2 l1 l2).objs.size=some _:=Heap.get?_push_size _ rfl
 have g4:(zH5 s.heap k1 k2 l1 l2).get? (zH3 s.heap k1 k2 l1 l2).objs.size=some _:=up (Heap.get?_push_size _ rfl)
 have g3:(zH5 s.heap k1 k2 l1 l2).get? (zH2 s.heap k1 k2 l1 l2).objs.size=some _:=up (up (Heap.get?_push_size _ rfl))
 have g2:SIt k2 (zH5 s.heap k1 k2 l1 l2) (zH1 s.heap k1 l1).objs.size l2 0:=sit_new.keeps fun o e=>up (up (up e))
 have g1:SIt k1 (zH5 s.heap k1 k2 l1 l2) s.heap.objs.size l1 0:=sit_new.keeps fun o e=>up (up (up (up e)))
 have up5:∀ c o,s.heap.get? c=some o->(zH5 s.heap k1 k2 l1 l2).get? c=some o:=fun c o x=>up (up (up (up (up x))))
 have r:(Value.ref (zH4 s.heap k1 k2 l1 l2).objs.size)=.ref (s.heap.objs.size+4):=congrArg _ z4
 show _/\_
 rw [z4,z2,z3] at g5
 rw [z2,z1] at g3
 rw [z3] at g4
 rw [z1] at g2
 rw [r]
 exact ⟨⟨_,g5,rfl⟩,h _ ⟨⟨_,g5⟩,.free _ g5,g3,⟨_,_,g4⟩,g1,g2⟩ up5⟩
theorem gU{n l1 l2:Nat}{k1 k2:Bool}(h1:l1<n)(h2:l2<n):Jo (jfA n l1 l2 k1 k2):=by
 have lt:∀ {a b:Nat},a<n->n≤b->a≠b:=fun x y=>Nat.ne_of_lt (Nat.lt_of_lt_of_le x y)
 have ne:∀ a b:Nat,a≠b->n+a≠n+b:=fun a b h e=>h (Nat.add_left_cancel e)
 exact ⟨ne 2 4 (by decide),ne 3 4 (by decide),ne 0 4 (by decide),ne 1 4 (by decide),ne 2 3 (by decide),ne 2 0 (by decide),ne 2 1 (by decide),ne 3 0 (by decide),ne 3 1 (by decide),ne 0 1 (by decide),
  lt h1 (Nat.le_add_right ..),lt h1 (Nat.le_add_right ..),lt h1 (Nat.le_refl _),lt h1 (Nat.le_add_right ..),lt h2 (Nat.le_add_right ..),lt h2 (Nat.le_add_right ..),lt h2 (Nat.le_refl _),lt h2 (Nat.le_add_right ..)⟩
theorem zd{p:Zp}{i:Nat}{Q:Value->Shared->Prop}(hst:ZSt p i s.heap)(h:Q (.ref p.z) s):wpAny (model prog w) A (pyIter (.ref p.z)) Q E s:=by
 have hT:=hst.f.at
 refine wpAny_pyIter_slot hT F.slot_zip_iter (wpAny_call_entry F.slot_zip_iter hT F.entry_zip_iter ?_ (F.args_zip_iter_1 _))
 show wpAny _ _ (ret (.ref p.z)) _ _ s
 exact wpAny_pure ⟨_,rfl,"zip",_,hT,F.slot_zip_next.lookup,h⟩
end
def Fm(env:Env)(a:Nat):Prop:=a=env.locals\/∃ x,env.cells.lookup x=some a
def Fit(P:Pm)(h:Heap)(v:MV)(o:Option Value):Prop:=∃ u,o=some u/\V P h v u
def jap(P:Pm)(kd:Kd)(ρ:ja)(h:Heap)(m:Str->Option Value):Prop:=∀ x v,x≠".0"->kd (Str.ofString x)=some .local->lk ρ x=some v->Fit P h v (m (Str.ofString x))
def Of(P:Pm)(ρ:ja)(h:Heap)(x:Str)(o:Option Value):Prop:=∀ y v,x=Str.ofString y->lk ρ y=some v->Fit P h v o
inductive jhb (P:Pm) (kd:Kd) (env:Env) (ρ:ja) (h:Heap):Prop
 | mk (m:Str->Option Value) (n:h.Ns env.locals m) (q:jap P kd ρ h m)
inductive jeT (P:Pm) (env:Env) (ρ:ja) (h:Heap) (x:Str):Prop
 | mk (c:Addr) (o:Option Value) (e:env.cells.lookup x=some c) (n:c≠env.locals) (i:h.IsCell c o) (q:Of P ρ h x o)
structure EnvOk(P:Pm)(kd:Kd)(env:Env)(ρ:ja)(h:Heap):Prop where
 kind:∀ x,env.kindOf x=kd x
 fnk:env.scope.kind=.function
 glob:env.globals=mainGlobals
 built:env.builtins=builtinsNs
 dead:∀ a,Fm env a->P.dead a
 ns:jhb P kd env ρ h
 cell:∀ x,(kd x=some .cell\/kd x=some .free)->jeT P env ρ h x
 apart:∀ x y c,env.cells.lookup x=some c->env.cells.lookup y=some c->x=y
structure GoX(D:Nat->Prop)(st:St)(s:Shared)(st':St)(s':Shared):Prop where
 same:∃ h' tk,s' = { s with heap:=h',toks:=tk }
 keep:∀ a o,s.heap.get? a=some o->¬ Wn st a->¬ D a->s'.heap.get? a=some o
 grow:∀ a,Wn st' a->Wn st a\/(s.heap.get? a=none/\¬ D a)
theorem Go.x{D:Nat->Prop}{st st':St}{s s':Shared}(g:Go st s st' s')(hD:∀ a,D a->∃ o,s.heap.get? a=some o):GoX D st s st' s' :=
 ⟨g.same,fun a o e n _=>g.keep a o e n,fun a q=>(g.grow a q).imp id fun e=>⟨e,fun d=>(hD a d).elim fun _ z=>no e z⟩⟩
theorem GoX.refl{D:Nat->Prop}{st:St}{s:Shared}:GoX D st s st s:=⟨⟨_,_,rfl⟩,fun _ _ e _ _=>e,fun _ h=>.inl h⟩
theorem GoX.back{D:Nat->Prop}{st:St}{s s':Shared}{st':St}(x:GoX D st s st' s'){a:Nat}(n:¬ Wn st a)(d:¬ D a)(e:s'.heap.get? a=none):s.heap.get? a=none:=by
 cases z:s.heap.get? a with
 |none=>rfl
 |some o=>exact no e (x.keep a o z n d)
theorem GoX.trans{D:Nat->Prop}{st st' st'':St}{s s' s'':Shared}(x:GoX D st s st' s')(y:GoX D st' s' st'' s''):GoX D st s st'' s'':=by
 refine ⟨?_,fun a o e n d=>y.keep a o (x.keep a o e n d) (fun hw=>(x.grow a hw).elim n fun h=>no h.1 e) d,fun a hw=>(y.grow a hw).elim (x.grow a) fun h=>Classical.byCases .inl fun n=>.inr ⟨x.back n h.2 h.1,h.2⟩⟩
 obtain ⟨h1,t1,z1⟩:=x.same
 obtain ⟨h2,t2,z2⟩:=y.same
 exact ⟨h2,t2,by rw [z2,z1]⟩
theorem GoX.go{D:Nat->Prop}{st st':St}{s s':Shared}(g:GoX D st s st' s')(hD:∀ a,D a->s.heap.get? a=none):Go st s st' s' :=
 ⟨g.same,fun a o e n=>g.keep a o e n fun d=>no (hD a d) e,fun a q=>(g.grow a q).imp id And.left⟩
theorem GoX.mono{D D':Nat->Prop}{st st':St}{s s':Shared}(g:GoX D st s st' s')(hD:∀ a,D a->D' a\/s.heap.get? a=none)(hD':∀ a,D' a->∃ o,s.heap.get? a=some o):GoX D' st s st' s' :=
 ⟨g.same,fun a o e n d=>g.keep a o e n fun q=>(hD a q).elim d fun z=>no z e,
  fun a q=>(g.grow a q).imp id fun z=>⟨z.1,fun d=>(hD' a d).elim fun _ y=>no z.1 y⟩⟩
section
variable {P:Pm}{kd:Kd}{env:Env}{ρ:ja}{st st':St}
theorem IsCell.there{h:Heap}{c:Addr}{o:Option Value}(x:h.IsCell c o):∃ ob,h.get? c=some ob:=let ⟨ob,e,_⟩:=x;⟨ob,e⟩
theorem Ns.there{h:Heap}{c:Addr}{m}(x:h.Ns c m):∃ ob,h.get? c=some ob:=let ⟨ob,_,_,e,_⟩:=x;⟨ob,e⟩
theorem UG{h h':Heap}{a m}(x:h.Ns a m)(e:∀ o,h.get? a=some o->h'.get? a=some o):h'.Ns a m:=let ⟨o,es,ep,ho,r⟩:=x;⟨o,es,ep,e _ ho,r⟩
theorem jfp{h h':Heap}{a m}(x:h.IsCell a m)(e:∀ o,h.get? a=some o->h'.get? a=some o):h'.IsCell a m:=let ⟨o,ho,r⟩:=x;⟨o,e _ ho,r⟩
theorem Fit.map{P':Pm}{h h':Heap}{v:MV}{o:Option Value}(m:Mono P h h')(l:Less P P' h)(q:Fit P h v o):Fit P' h' v o:=q.imp fun _ z=>⟨z.1,z.2.map m l _ _⟩
theorem EnvOk.map{P':Pm}{h h':Heap}(x:EnvOk P kd env ρ h)(m:Mono P h h')(l:Less P P' h)(k:∀ a o,Fm env a->h.get? a=some o->h'.get? a=some o)(d:∀ a,Fm env a->P'.dead a):EnvOk P' kd env ρ h':=by
 refine ⟨x.kind,x.fnk,x.glob,x.built,d,?_,fun y hy=>?_,x.apart⟩
 ·obtain ⟨mm,hn,q⟩:=x.ns
  exact ⟨mm,UG hn fun o e=>k _ o (.inl rfl) e,fun y v hy hk hl=>(q y v hy hk hl).map m l⟩
 ·obtain ⟨c,o,a,b,i,q⟩:=x.cell y hy
  exact ⟨c,o,a,b,jfp i fun ob e=>k _ ob (.inr ⟨_,a⟩) e,fun z v hz hl=>(q z v hz hl).map m l⟩
theorem EnvOk.keeps{h h':Heap}(x:EnvOk P kd env ρ h)(m:Mono P h h')(k:∀ a o,P.dead a->h.get? a=some o->h'.get? a=some o):EnvOk P kd env ρ h':=x.map m .refl (fun a o f e=>k a o (x.dead a f) e) x.dead
theorem Sim.dead_keep{s s':Shared}(S:Sim P st s.heap)(g:Go st s st' s'):∀ a o,P.dead a->s.heap.get? a=some o->s'.heap.get? a=some o :=
 fun a o d e=>g.keep a o e (Wn.no (S.dead a d).2)
theorem EnvOk.go{s s':Shared}(x:EnvOk P kd env ρ s.heap)(S:Sim P st s.heap)(g:Go st s st' s'):EnvOk P kd env ρ s'.heap :=
 x.keeps (S.mono g) (S.dead_keep g)
theorem Mono.atDead{h h':Heap}(k:∀ b o,¬ P.dead b->h.get? b=some o->h'.get? b=some o):Mono P h h':=fun a o e q=>k a o (fun d=>q.elim (fun q=>q.2 d) fun q=>q (P.off a d)) e
theorem Sim.atDead{h h':Heap}(S:Sim P st h)(k:∀ b o,¬ P.dead b->h.get? b=some o->h'.get? b=some o)(t:∀ b,P.dead b->(∃ o,h.get? b=some o)->∃ o,h'.get? b=some o):Sim P st h':=by
 have nd:∀ b o,st b=some o->¬ P.dead b:=fun b o q d=>no (S.dead b d).2 q
 exact ⟨fun a o e=>(S.rep a o e).map (.atDead k) .refl (fun ob z=>k _ _ (nd _ _ e) z) fun d hd ob z=>k _ _ (nd _ _ (S.link a o d e hd)) z,S.link,S.below,fun a o e=>k a o (fun d=>no (P.off a d) e) (S.keep a o e),fun a d=>⟨t a d (S.dead a d).1,(S.dead a d).2⟩⟩
variable {A:Around}{E:Value->Shared->Prop}{s:Shared}
theorem jav{x:String}{v:MV}{Q:Value->Shared->Prop}(X:EnvOk P kd env ρ s.heap)(hx:x≠".0")(hk:qy (kd (Str.ofString x))=true)(hc:(Str.ofString x==("__classdict__" : Str))=false)
  (hv:lk ρ x=some v) (h:∀ u,V P s.heap v u->Q u s):wpAny (model prog w) A (loadName env (Str.ofString x)) Q E s:=by
 unfold qy at hk
 rw [Bool.or_eq_true,Bool.or_eq_true,beq_iff_eq,beq_iff_eq,beq_iff_eq] at hk
 rcases hk with e | e | e
 ·obtain ⟨m,hn,q⟩:=X.ns
  obtain ⟨u,hu,vu⟩:=q x v hx e hv
  exact wpAny_loadName_local X.fnk ((X.kind _).trans e) hn hu (h u vu)
 ·obtain ⟨c,o,a,b,d,q⟩:=X.cell _ (.inl e)
  obtain ⟨u,f,vu⟩:=q x v rfl hv
  exact wpAny_loadName_cell X.fnk ((X.kind _).trans e) a (f▸d) (h u vu)
 ·obtain ⟨c,o,a,b,d,q⟩:=X.cell _ (.inr e)
  obtain ⟨u,f,vu⟩:=q x v rfl hv
  exact wpAny_loadName_free X.fnk ((X.kind _).trans e) a (f▸d) (h u vu) hc
theorem ym{f:String×Option MV}{r:ja}{x:String}{v:MV}:yf (f::r) x v=if f.1=x then (f.1,some v)::r else f::yf r x v:=rfl
theorem Jd{f:String×Option MV}{r:ja}{x:String}:lk (f::r) x=if f.1=x then f.2 else lk r x:=rfl
theorem zO{v:MV}{ρ:ja}{x:String}{u:MV}(h:lk (yf ρ x v) x=some u):u=v:=by
 induction ρ with
 |nil=>cases h
 |cons f r ih =>
  rw [ym] at h
  by_cases e:f.1=x
  ·rw [if_pos e,Jd,if_pos e] at h;exact (Option.some.inj h).symm
  ·rw [if_neg e,Jd,if_neg e] at h;exact ih h
theorem XH{v:MV}{ρ:ja}{x y:String}(h:y≠x):lk (yf ρ x v) y=lk ρ y:=by
 induction ρ with
 |nil=>rfl
 |cons f r ih =>
  rw [ym]
  by_cases e:f.1=x
  ·rw [if_pos e,Jd,Jd,if_neg fun q=>h (q.symm.trans e),if_neg fun q=>h (q.symm.trans e)]
  ·rw [if_neg e,Jd,Jd,ih]
theorem Z5{v z:MV}{ρ:ja}{x y:String}{G:Prop}(h:lk (yf ρ x v) y=some z)(k:y=x->z=v->G)(l:y≠x->lk ρ y=some z->G):G:=by
 by_cases e:y=x
 ·rw [e] at h;exact k e (zO h)
 ·rw [XH e] at h;exact l e h
section
variable {h h':Heap}{x:String}{v:MV}{u:Value} (X:EnvOk P kd env ρ h) (hv:V P h v u) (mm:Mono P h h')
include X hv mm
theorem EnvOk.setL{m:Str->Option Value}(hk:kd (Str.ofString x)=some .local)(q:jap P kd ρ h m)
  (hn':h'.Ns env.locals fun y=>if y=Str.ofString x then some u else m y) (hs:Heap.SameBut env.locals h h'):EnvOk P kd env (yf ρ x v) h':=by
 refine ⟨X.kind,X.fnk,X.glob,X.built,X.dead,⟨_,hn',fun y z hy hky hl=>?_⟩,fun y hy=>?_,X.apart⟩
 ·apply Z5 hl
  ·intro e f;rw [e,f];exact ⟨u,if_pos rfl,hv.mono mm⟩
  ·intro n l
   obtain ⟨u',a,b⟩:=q y z hy hky l
   exact ⟨u',(if_neg fun e=>n (jX e)).trans a,b.mono mm⟩
 ·obtain ⟨c,o,a,b,d,q⟩:=X.cell y hy
  refine ⟨c,o,a,b,d.sameBut hs b,fun z t hz hl=>?_⟩
  apply Z5 hl
  ·intro e _;rw [hz,e,hk] at hy;exact hy.elim (fun z=>nomatch z) fun z=>nomatch z
  ·intro _ l;exact (q z t hz l).map mm .refl
theorem EnvOk.setC{c:Addr}(hk:kd (Str.ofString x)=some .cell)(a:env.cells.lookup (Str.ofString x)=some c)(b:c≠env.locals)(hc':h'.IsCell c (some u))(hs:Heap.SameBut c h h'):EnvOk P kd env (yf ρ x v) h':=by
 obtain ⟨m,hn,qn⟩:=X.ns
 refine ⟨X.kind,X.fnk,X.glob,X.built,X.dead,⟨m,hn.sameBut hs (Ne.symm b),fun y z hy hky hl=>?_⟩,fun y hy=>?_,X.apart⟩
 ·apply Z5 hl
  ·intro e _;rw [e,hk] at hky;cases hky
  ·intro _ l;exact (qn y z hy hky l).map mm .refl
 ·by_cases hyx:y=Str.ofString x
  ·refine ⟨c,some u,hyx▸a,b,hc',fun z t hz hl=>?_⟩
   have e:z=x:=jX (hz.symm.trans hyx)
   rw [e] at hl
   exact ⟨u,rfl,(zO hl)▸hv.mono mm⟩
  ·obtain ⟨c',o',a',b',d',q'⟩:=X.cell y hy
   refine ⟨c',o',a',b',d'.sameBut hs (fun e=>hyx (X.apart _ _ _ (e▸a') a)),fun z t hz hl=>?_⟩
   rw [XH fun e:z=x=>hyx (e▸hz)] at hl
   exact (q' z t hz hl).map mm .refl
end
def Keeps(W:Nat->Prop)(h h':Heap):Prop:=∀ b o,¬ W b->h.get? b=some o->h'.get? b=some o
theorem Keeps.x{W:Nat->Prop}{s:Shared}{h':Heap}{tk:Nat}(k:Keeps W s.heap h'):GoX W st s st { s with heap:=h',toks:=tk }:=⟨⟨_,_,rfl⟩,fun a o e _ nb=>k a o nb e,fun a q=>.inl q⟩
theorem US{x:String}{v:MV}{u:Value}{Q:Unit->Shared->Prop}(X:EnvOk P kd env ρ s.heap)(S:Sim P st s.heap)(hk:kd (Str.ofString x)=some .local\/kd (Str.ofString x)=some .cell)
  (hv:V P s.heap v u) (h:∀ h' tk,EnvOk P kd env (yf ρ x v) h'->Sim P st h'->Keeps (Fm env) s.heap h'->Q () { s with heap:=h',toks:=tk }) :
  wpAny (model prog w) A (storeName env (Str.ofString x) u) Q E s:=by
 have mo:∀ a (h':Heap),Fm env a->Heap.SameBut a s.heap h'->Mono P s.heap h':=fun a h' ha hs=>Mono.atDead fun b o nd e=>hs.extBut b o (fun q=>nd (q▸X.dead a ha)) e
 have fin:∀ a (h':Heap) tk,Fm env a->Heap.SameBut a s.heap h'->(∃ o,h'.get? a=some o)->EnvOk P kd env (yf ρ x v) h'->Q () { s with heap:=h',toks:=tk }:=by
  intro a h' tk ha hs hh X'
  have k:∀ b o,¬ Fm env b->s.heap.get? b=some o->h'.get? b=some o:=fun b o nb e=>hs.extBut b o (fun q=>nb (q▸ha)) e
  refine h h' tk X' (S.atDead (fun b o nd e=>k b o (fun q=>nd (X.dead b q)) e) fun b hb z=>?_) k
  by_cases hba:b=a
  ·exact hba▸hh
  ·exact z.imp fun o e=>hs.extBut b o hba e
 rcases hk with hk | hk
 ·obtain ⟨m,hn,q⟩:=X.ns
  exact wpAny_storeName_local ((X.kind _).trans hk) hn (fun h' hn' hs=>fin env.locals h' _ (.inl rfl) hs (Ns.there hn') (X.setL hv (mo _ h' (.inl rfl) hs) hk q hn' hs)) (by rw [X.fnk];rfl)
 ·obtain ⟨c,o,a,b,d,q⟩:=X.cell _ (.inl hk)
  exact wpAny_storeName_cell X.fnk ((X.kind _).trans hk) a d fun h' hc' hs=>fin c h' _ (.inr ⟨_,a⟩) hs (IsCell.there hc') (X.setC hv (mo _ h' (.inr ⟨_,a⟩) hs) hk a b hc' hs)
end
noncomputable def Pm.more(P:Pm)(own:Nat->Prop)(off:∀ a,own a->h₀.get? a=none):Pm:=⟨fun a=>P.dead a\/own a,fun a h=>h.elim (P.off a) (off a)⟩
section
variable {P:Pm}{own:Nat->Prop}{off:∀ a,own a->h₀.get? a=none}{h h':Heap}{st:St}
theorem Mono.keep(k:∀ a o,h.get? a=some o->h'.get? a=some o):Mono P h h':=fun a o e _=>k a o e
theorem Mono.same:Mono P h h:=fun _ _ e _=>e
theorem Less.more(f:∀ a,own a->h.get? a=none):Less P (P.more own off) h:=fun a _ e n d=>d.elim n fun q=>no (f a q) e
theorem Less.less:Less (P.more own off) P h:=fun _ _ _ n d=>n (.inl d)
theorem V.more(f:∀ a,own a->h.get? a=none)(x:MV)(v:Value)(q:V P h x v):V (P.more own off) h x v:=q.map .same (.more f) x v
theorem Vs.more(f:∀ a,own a->h.get? a=none)(xs:List MV)(vs:List Value)(q:Vs P h xs vs):Vs (P.more own off) h xs vs:=q.map .same (.more f) xs vs
theorem V.less(x:MV)(v:Value)(q:V (P.more own off) h x v):V P h x v:=q.map .same .less x v
theorem Vs.less(xs:List MV)(vs:List Value)(q:Vs (P.more own off) h xs vs):Vs P h xs vs:=q.map .same .less xs vs
theorem KvsAre.more(f:∀ a,own a->h.get? a=none){fs es}(q:KvsAre P h fs es):KvsAre (P.more own off) h fs es:=q.map .same (.more f)
theorem KvsAre.less{fs es}(q:KvsAre (P.more own off) h fs es):KvsAre P h fs es:=q.map .same .less
theorem Sim.less(S:Sim (P.more own off) st h):Sim P st h :=
 ⟨fun a o e=>(S.rep a o e).map .same .less (fun _ z=>z) fun _ _ _ z=>z,S.link,S.below,S.keep,fun a d=>S.dead a (.inl d)⟩
theorem Sim.more(S:Sim P st h)(f:∀ a,own a->h.get? a=none)(k:∀ a o,h.get? a=some o->h'.get? a=some o)(t:∀ a,own a->∃ o,h'.get? a=some o):Sim (P.more own off) st h' :=
 ⟨fun a o e=>(S.rep a o e).map (.keep k) (.more f) (k _) fun _ _=>k _,S.link,S.below,fun a o e=>k a o (S.keep a o e),fun a d=>d.elim (fun d=>⟨(S.dead a d).1.imp fun o=>k a o,(S.dead a d).2⟩) fun d=>⟨t a d,S.st_none (f a d)⟩⟩
variable {kd:Kd}{env:Env}{ρ:ja}
theorem EnvOk.more(X:EnvOk P kd env ρ h)(f:∀ a,own a->h.get? a=none)(k:∀ a o,h.get? a=some o->h'.get? a=some o):EnvOk (P.more own off) kd env ρ h':=X.map (.keep k) (.more f) (fun a o _=>k a o) fun a d=>.inl (X.dead a d)
theorem EnvOk.less(X:EnvOk (P.more own off) kd env ρ h)(hd:∀ a,Fm env a->P.dead a):EnvOk P kd env ρ h:=X.map .same .less (fun _ _ _ z=>z) hd
end
inductive SeqSrc (P:Pm) (h:Heap) (a:Addr):Bool->List MV->List (Nat×MObj)->Prop
 | l {xs}:SeqSrc P h a false xs [(a,.list xs)]
 | t {xs} (us:Array Value) (d:¬ P.dead a/\xs.length≤jb) (i:h.IsTuple a us) (v:Vs P h xs us.toList):SeqSrc P h a true xs []
 | c (us:Array Value) (zs:List Int) (i:h₀.IsList a us) (n:IntsAre us.toList zs) (l:zs.length<100):SeqSrc P h a false (zs.map .int) []
section
variable {P P':Pm}{own:Nat->Prop}{off:∀ a,own a->h₀.get? a=none}{h h':Heap}{st:St}{k:Bool}{a:Addr}{xs:List MV}{src:List (Nat×MObj)}
theorem SeqSrc.map(m:Mono P h h')(l:Less P P' h)(q:SeqSrc P h a k xs src):SeqSrc P' h' a k xs src:=by
 induction q with
 |l=>exact .l
 |t us d i v=>obtain ⟨o,ho,hc,hn⟩:=i;exact .t us ⟨l _ o ho d.1,d.2⟩ ⟨o,m _ o ho (.inl ⟨hc,d.1⟩),hc,hn⟩ (v.map m l)
 |c us zs i n l=>exact .c us zs i n l
theorem SeqSrc.mono(q:SeqSrc P h a k xs src)(m:Mono P h h'):SeqSrc P h' a k xs src:=q.map m .refl
theorem SeqSrc.more(q:SeqSrc P h a k xs src)(f:∀ a,own a->h.get? a=none):SeqSrc (P.more own off) h a k xs src:=q.map .same (.more f)
inductive SeqAtI (P:Pm) (h:Heap) (k:Bool) (a:Addr) (xs:List MV):Prop
 | mk (l:xs.length≤jb) (us:Array Value) (n:Nat) (o:Obj) (hS:SSrc k h a us) (hv:Vs P h xs us.toList) (hz:xs.length=us.size) (e:h.get? a=some o) (hc:o.cls=.type (if k then "tuple" else "list")) (hd:o.data=.seq us n)
theorem SeqAtI.len(q:SeqAtI P h k a xs):xs.length≤jb:=by cases q;assumption
theorem SeqSrc.at_(q:SeqSrc P h a k xs src)(S:Sim P st h)(hs:ji src st):SeqAtI P h k a xs:=by
 induction q with
 | @l xs =>
  obtain ⟨us,n,e,l,v,z,L⟩:=S.lst (hs (a,.list xs) (List.mem_cons_self ..))
  exact ⟨l,us,n,_,L,v,z,e,rfl,rfl⟩
 |t us d i v =>
  obtain ⟨o,ho,hc,n,hn⟩:=id i
  exact ⟨d.2,us,n,o,i,v,v.length.trans Array.length_toList,ho,hc,hn⟩
 |c us zs i hi hl =>
  obtain ⟨o,ho,hc,n,hn⟩:=i
  have v:=Vs.ints (P:=P) (h:=h) |>.mpr hi
  have e:=S.keep _ _ ho
  exact ⟨by rw [List.length_map];unfold jb;w_up,us,n,o,⟨o,e,hc,n,hn⟩,v,v.length.trans Array.length_toList,e,hc,hn⟩
end
def But(own:Nat->Prop)(h h':Heap):Prop:=∀ a o,¬ own a->h.get? a=some o->h'.get? a=some o
structure ItOk(A:Around)(P:Pm)(one:Bool)(own:Nat->Prop)(pin:List Nat)(src:List (Nat×MObj))(it:Addr)(xs:List MV)
  (At:Nat->Heap->Prop) (Mid:Nat->Value->Heap->Prop):Prop where
 keepAt:∀ i h h',At i h->Mono P h h'->(∀ a o,own a\/a∈pin->h.get? a=some o->h'.get? a=some o)->At i h'
 alive:∀ i h,At i h->∀ a,own a->∃ o,h.get? a=some o
 aliveMid:∀ i v h,Mid i v h->∀ a,own a->∃ o,h.get? a=some o
 pinned:∀ st h,Sim P st h->ji src st->∀ a∈pin,¬ Wn st a/\¬ P.dead a
 next:∀ (E:Value->Shared->Prop) i st (s:Shared) x (Q:Option Value->Shared->Prop),Sim P st s.heap->ji src st->At i s.heap->xs[i]? = some x ->
  (∀ v h' tk,Mid (i+1) v h'->V P h' x v->But own s.heap h'->Q (some v) { s with heap:=h',toks:=tk })->wpAny (model prog w) A (pyNext (.ref it)) Q E s
 done:∀ (E:Value->Shared->Prop) i st (s:Shared) (Q:Option Value->Shared->Prop),Sim P st s.heap->ji src st->At i s.heap->xs[i]? = none ->
  (∀ h',But own s.heap h'->Q none { s with heap:=h' })->wpAny (model prog w) A (pyNext (.ref it)) Q E s
 go:∀ (E:Value->Shared->Prop) i v (s:Shared) (Q:Unit->Shared->Prop) elts k pos,Mid i v s.heap ->
  (∀ h',At i h'->But own s.heap h'->Q () { s with heap:=h' })->wpAny (model prog w) A (letOwnedTupleGo (.Tuple elts k pos) (.ref it) v) Q E s
 skip:one=true->∀ i v h,Mid i v h->At i h
 self:∀ (E:Value->Shared->Prop) i (s:Shared) (Q:Value->Shared->Prop),At i s.heap->Q (.ref it) s->wpAny (model prog w) A (pyIter (.ref it)) Q E s
section
variable {P:Pm}{A:Around}{st:St}{xs:List MV}{src:List (Nat×MObj)}
theorem But.ext{it:Addr}{h h':Heap}(x:Heap.ExtBut it h h'):But (· = it) h h':=fun a o n e=>x a o n e
theorem vV{P:Pm}{h:Heap}{xs:List MV}{us:Array Value}{i:Nat}{x:MV}(v:Vs P h xs us.toList)(hx:xs[i]? = some x):∃ u,us[i]? = some u/\V P h x u:=(v.get i hx).imp fun _ z=>⟨(Array.getElem?_toList ..).symm.trans z.1,z.2⟩
theorem ZX{xs:List MV}{us:Array Value}{i:Nat}(z:xs.length=us.size)(hx:xs[i]? = none):us[i]? = none:=Array.getElem?_eq_none_iff.mpr (z▸List.getElem?_eq_none_iff.mp hx)
theorem jaO{k:Bool}{it a:Addr}{i:Nat}{E:Value->Shared->Prop}{s:Shared}{Q:Value->Shared->Prop}(hit:SIt k s.heap it a i)(h:Q (.ref it) s):wpAny (model prog w) A (pyIter (.ref it)) Q E s:=by
 cases k
 ·exact wpAny_pyIter_listiter hit h
 ·exact wpAny_pyIter_tupleiter hit h
theorem Qa{h:Heap}:∀ a∈([]:List Nat),¬ Wn st a/\¬ P.dead a:=fun _ q=>nomatch q
theorem zP{own:Nat->Prop}{h:Heap}:But own h h:=fun _ _ _ e=>e
structure AtS(P:Pm)(k:Bool)(it a:Addr)(xs:List MV)(src:List (Nat×MObj))(i:Nat)(h:Heap):Prop where
 t:SIt k h it a i
 q:SeqSrc P h a k xs src
theorem jcR(hh:A.handled=none){k:Bool}{a it:Addr}(hd:P.dead it)(hne:a≠it):ItOk A P true (· = it) [] src it xs (AtS P k it a xs src) (fun i _=>AtS P k it a xs src i) where
 keepAt i h h' x m ko:=⟨x.t.keeps fun o e=>ko _ o (.inl rfl) e,x.q.mono m⟩
 alive i h x b hb:=hb▸x.t.there.imp fun _ z=>z.1
 aliveMid i v h x b hb:=hb▸x.t.there.imp fun _ z=>z.1
 pinned _ h _ _:=Qa (h:=h)
 next E i st s x Q S hs X hx hQ:=by
  obtain ⟨_,us,n,o,ht,hv,_⟩:=X.q.at_ S hs
  obtain ⟨u,hu,vu⟩:=vV hv hx
  refine xi X.t ht hu fun h' hit hsb=>?_
  have m:Mono P s.heap h':=Mono.atDead fun b o nd e=>hsb.extBut b o (fun q=>nd (q▸hd)) e
  exact hQ u h' s.toks ⟨hit,X.q.mono m⟩ (vu.mono m) (But.ext hsb.extBut)
 done E i st s Q S hs X hx hQ:=by
  obtain ⟨_,us,n,o,ht,hv,z,_⟩:=X.q.at_ S hs
  exact zt hh X.t ht (ZX z hx) fun h' he=>hQ h' (But.ext he)
 go E i v s Q elts k pos X hQ:=UX X.t (hQ s.heap X zP)
 skip _ _ _ _ h:=h
 self E i s Q X hQ:=jaO X.t hQ
structure AtR(it:Addr)(n:Nat)(i:Nat)(h:Heap):Prop where
 t:IsRangeIter h it i ((n:Int) - i) 1
 l:i≤n
theorem oy{n i:Nat}{x:MV}(hx:((List.range n).map fun i:Nat=>MV.int i)[i]? = some x):i<n/\x=.int i:=by
 rw [List.getElem?_map] at hx
 obtain ⟨j,e,f⟩:=Option.map_eq_some_iff.mp hx
 obtain ⟨l,g⟩:=List.getElem?_eq_some_iff.mp e
 rw [List.getElem_range] at g
 exact ⟨List.length_range (n:=n)▸l,by rw [← f,g]⟩
theorem Gg{n i:Nat}:(n:Int) - ((i+1:Nat):Int)=n - i - 1:=by w_up
theorem Uw(hh:A.handled=none){it:Addr}{n:Nat}(hd:P.dead it):ItOk A P true (· = it) [] [] it ((List.range n).map fun i:Nat=>MV.int i) (AtR it n) (fun i _=>AtR it n i) where
 keepAt i h h' x m ko:=⟨ko _ _ (.inl rfl) x.t,x.l⟩
 alive i h x b hb:=⟨_,hb▸x.t⟩
 aliveMid i v h x b hb:=⟨_,hb▸x.t⟩
 pinned _ h _ _:=Qa (h:=h)
 next E i st s x Q S hs X hx hQ:=by
  obtain ⟨hlt,e⟩:=oy hx
  refine wpAny_pyNext_range_item X.t (by w_up) fun h' hit hsb=>hQ _ h' _ ⟨?_,hlt⟩ (by rw [e];exact ⟨_,rfl⟩) (But.ext hsb.extBut)
  rw [Gg];exact hit
 done E i st s Q S hs X hx hQ:=by
  have hge:n≤i:=by simpa using List.getElem?_eq_none_iff.mp hx
  exact wpAny_pyNext_range_end hh X.t (by w_up) fun h' he=>hQ h' (But.ext he)
 go E i v s Q elts k pos X hQ:=by
  unfold letOwnedTupleGo
  cases v<;>first
   | exact wpAny_pure (hQ _ X zP)
   | (refine wpAny_bind (wpAny_load X.t ?_)
      exact wpAny_pure (hQ _ X zP))
 skip _ _ _ _ h:=h
 self E i s Q X hQ:=wpAny_pyIter_rangeiter X.t hQ
theorem Qq{xs:List MV}:∀ {n i:Nat}{x:MV},(Jl n xs)[i]? = some x->∃ y,xs[i]? = some y/\x=.tup [.int (n+i:Nat),y]:=by
 induction xs with
 |nil=>intro n i x h;cases h
 |cons y r ih =>
  intro n i x h
  cases i with
  |zero=>cases h;exact ⟨y,rfl,rfl⟩
  |succ i =>
   obtain ⟨z,a,b⟩:=ih (n:=n+1) (i:=i) h
   exact ⟨z,a,by rw [b,Nat.add_right_comm];rfl⟩
theorem Y4(n:Nat)(xs:List MV):(Jl n xs).length=xs.length:=by
 induction xs generalizing n with
 |nil=>rfl
 |cons x r ih=>exact congrArg Nat.succ (ih (n+1))
theorem uP{h h':Heap}{a:Addr}{x y:MV}{u v:Value}(S:Sim P st h)(n:h.get? a=none)(m:Mono P h h')(t:h'.IsTuple a #[u,v])(hx:V P h x u)(hy:V P h y v):V P h' (.tup [x,y]) (.ref a) :=
 ⟨a,#[u,v],rfl,⟨fun d=>(S.dead _ d).1.elim fun _ z=>no n z,show 2≤jb by decide⟩,t,u,_,rfl,hx.mono m,v,_,rfl,hy.mono m,rfl⟩
structure AtE(e it l:Addr)(i:Nat)(h:Heap):Prop where
 e:∃ old,IsEnum h e it (i:Int) old
 t:h.IsListIter it l i
structure jhp(e it l:Addr)(i:Nat)(v:Value)(h:Heap):Prop where
 e:∃ T x,v=.ref T/\IsEnumOut h e it (i:Int) x T
 t:h.IsListIter it l i
theorem VL(hh:A.handled=none){e it l:Addr}(hde:P.dead e)(hdi:P.dead it)(hei:e≠it):ItOk A P false (fun a=>a=e\/a=it) [] [(l,.list xs)] e (Jl 0 xs) (AtE e it l) (jhp e it l) where
 keepAt i h h' x m ko:=⟨x.e.imp fun old z=>ko _ _ (.inl (.inl rfl)) z,x.t.at fun o z=>ko _ o (.inl (.inr rfl)) z⟩
 alive i h x b hb:=hb.elim (fun q=>x.e.elim fun old z=>⟨_,q▸z⟩) fun q=>x.t.elim fun o z=>⟨_,q▸z.1⟩
 aliveMid i v h x b hb:=hb.elim (fun q=>x.e.elim fun T z=>z.elim fun y z=>⟨_,q▸z.2⟩) fun q=>x.t.elim fun o z=>⟨_,q▸z.1⟩
 pinned _ h _ _:=Qa (h:=h)
 next E i st s x Q S hs X hx hQ:=by
  obtain ⟨old,he⟩:=X.e
  obtain ⟨y,hy,ex⟩:=Qq hx
  obtain ⟨us,n,e1,hl,v,_,L⟩:=S.lst (hs (l,.list xs) (List.mem_cons_self ..))
  obtain ⟨u,hu,vu⟩:=vV v hy
  refine wpAny_pyNext_enum_item he X.t L hu hei fun h' ho hit' hT hsz hk=>?_
  have m:Mono P s.heap h':=Mono.atDead fun b o nd z=>hk b o (fun q=>nd (q▸hde)) (fun q=>nd (q▸hdi)) z
  refine hQ _ h' _ ⟨⟨_,u,rfl,ho⟩,hit'⟩ ?_ fun b o nb z=>hk b o (fun q=>nb (.inl q)) (fun q=>nb (.inr q)) z
  rw [ex,Nat.zero_add]
  exact uP S (j3 _) m ⟨_,hT,rfl,_,rfl⟩ ⟨_,rfl⟩ vu
 done E i st s Q S hs X hx hQ:=by
  obtain ⟨old,he⟩:=X.e
  obtain ⟨us,n,e1,hl,v,z,L⟩:=S.lst (hs (l,.list xs) (List.mem_cons_self ..))
  refine wpAny_pyNext_enum_end hh he X.t L (ZX z ?_) fun h' hx=>hQ h' fun b o nb z=>hx b o (fun q=>nb (.inr q)) z
  rw [List.getElem?_eq_none_iff,Y4] at hx
  exact List.getElem?_eq_none_iff.mpr hx
 go E i v s Q elts k pos X hQ:=by
  obtain ⟨T,x,e,ho⟩:=X.e
  apply vIs e
  exact wpAny_letOwnedTupleGo_enum ho fun h' he' hs'=>hQ h' ⟨⟨x,he'⟩,X.t.at fun o y=>(hs'.2 it hei.symm).trans y⟩ fun b o nb z=>hs'.extBut b o (fun q=>nb (.inl q)) z
 skip h:=nomatch h
 self E i s Q X hQ:=X.e.elim fun old he=>wpAny_pyIter_enum he hQ
def YT(p:Zp)(a:Nat):Prop:=a=p.z\/a=p.TI\/a=p.TO\/a=p.i1\/a=p.i2
theorem ZSt.alive{p:Zp}{i:Nat}{h:Heap}(x:ZSt p i h)(a:Nat)(q:YT p a):∃ o,h.get? a=some o:=by
 rcases q with e | e | e | e | e<;>rw [e]
 ·exact x.f.casesOn (fun _ e=>⟨_,e⟩) fun _ _ _ e _ _=>⟨_,e⟩
 ·exact ⟨_,x.ti⟩
 ·exact x.tO.elim fun _ z=>z.elim fun _ z=>⟨_,z⟩
 ·exact x.t1.there.imp fun _ z=>z.1
 ·exact x.t2.there.imp fun _ z=>z.1
theorem VQ{p:Zp}{h h':Heap}(hk:Yd p h h'):But (YT p) h h' :=
 fun b o nb e=>hk b o (fun q=>nb (.inl q)) (fun q=>nb (.inr (.inr (.inl q)))) (fun q=>nb (.inr (.inr (.inr (.inl q))))) (fun q=>nb (.inr (.inr (.inr (.inr q))))) e
theorem uU{p:Zp}{h h':Heap}(hd:∀ a,YT p a->P.dead a)(hk:But (YT p) h h'):Mono P h h':=Mono.atDead fun b o nd e=>hk b o (fun q=>nd (hd _ q)) e
noncomputable abbrev yP(xs ys:List MV):List MV:=List.zipWith (fun x y=>MV.tup [x,y]) xs ys
theorem OR{xs ys:List MV}{i:Nat}{x:MV}{us ws:Array Value}{u v:Value}{h:Heap}{G:Prop}(hv:Vs P h xs us.toList)(hv':Vs P h ys ws.toList)(hu:us[i]? = some u)(hw:ws[i]? = some v)(hx:(yP xs ys)[i]? = some x)
  (k:∀ x1 x2,x=.tup [x1,x2]->V P h x1 u->V P h x2 v->G):G:=by
 unfold yP at hx
 rw [List.getElem?_zipWith] at hx
 cases e1:xs[i]? with
 |none=>rw [e1] at hx;cases hx
 |some x1=>cases e2:ys[i]? with
  |none=>rw [e1,e2] at hx;cases hx
  |some x2 =>
   rw [e1,e2] at hx
   obtain ⟨a,a1,a2⟩:=vV hv e1
   obtain ⟨b,b1,b2⟩:=vV hv' e2
   exact k x1 x2 (Option.some.inj hx).symm (Option.some.inj (hu.symm.trans a1)▸a2) (Option.some.inj (hw.symm.trans b1)▸b2)
theorem QK{xs ys:List MV}{i:Nat}{x:MV}{us ws:Array Value}(z:xs.length=us.size)(z':ys.length=ws.size)(hx:(yP xs ys)[i]? = some x)(q:us[i]? = none\/ws[i]? = none){G:Prop}:G:=by
 have l:=(List.getElem?_eq_some_iff.mp hx).1
 rw [List.length_zipWith,Nat.lt_min] at l
 rcases q with q | q
 ·exact absurd (Array.getElem?_eq_none_iff.mp q) (Nat.not_le_of_lt (z▸l.1))
 ·exact absurd (Array.getElem?_eq_none_iff.mp q) (Nat.not_le_of_lt (z'▸l.2))
theorem vR{xs ys:List MV}{i:Nat}{us ws:Array Value}{u v:Value}(z:xs.length=us.size)(z':ys.length=ws.size)(hx:(yP xs ys)[i]? = none)(hu:us[i]? = some u)(hw:ws[i]? = some v){G:Prop}:G:=by
 have hx:=List.getElem?_eq_none_iff.mp hx
 have a:=(Array.getElem?_eq_some_iff.mp hu).1
 have b:=(Array.getElem?_eq_some_iff.mp hw).1
 rw [← z] at a;rw [← z'] at b
 rw [List.length_zipWith] at hx
 exact absurd (Nat.lt_min.mpr ⟨a,b⟩) (Nat.not_lt_of_le hx)
section
variable {p:Zp}{ys:List MV}{s1 s2:List (Nat×MObj)}
structure ZSrc(P:Pm)(p:Zp)(xs ys:List MV)(s1 s2:List (Nat×MObj))(h:Heap):Prop where
 q1:SeqSrc P h p.a1 p.k1 xs s1
 q2:SeqSrc P h p.a2 p.k2 ys s2
structure AtZ(P:Pm)(p:Zp)(xs ys:List MV)(s1 s2:List (Nat×MObj))(i:Nat)(h:Heap):Prop where
 t:VH p i h
 q:ZSrc P p xs ys s1 s2 h
structure jhq(P:Pm)(p:Zp)(xs ys:List MV)(s1 s2:List (Nat×MObj))(i:Nat)(v:Value)(h:Heap):Prop where
 t:∃ T,v=.ref T/\OA T p i h
 q:ZSrc P p xs ys s1 s2 h
theorem ZSrc.mono{h h':Heap}(x:ZSrc P p xs ys s1 s2 h)(m:Mono P h h'):ZSrc P p xs ys s1 s2 h':=⟨x.q1.mono m,x.q2.mono m⟩
inductive jhw (P:Pm) (p:Zp) (xs ys:List MV) (h:Heap):Prop
 | mk (us ws:Array Value) (s1:SSrc p.k1 h p.a1 us) (s2:SSrc p.k2 h p.a2 ws) (v1:Vs P h xs us.toList) (v2:Vs P h ys ws.toList) (l:xs.length≤jb)
theorem ZSrc.at_{h:Heap}(x:ZSrc P p xs ys s1 s2 h)(S:Sim P st h)(hs:ji (s1++s2) st):jhw P p xs ys h:=by
 obtain ⟨l,us,n,o,ht,hv,_⟩:=x.q1.at_ S (fun p hp=>hs p (List.mem_append_left _ hp))
 obtain ⟨_,us',n',o',ht',hv',_⟩:=x.q2.at_ S (fun p hp=>hs p (List.mem_append_right _ hp))
 exact ⟨us,us',ht,ht',hv,hv',l⟩
theorem jbL(hh:A.handled=none)(D:Jo p)(hd:∀ a,YT p a->P.dead a) :
  ItOk A P false (YT p) [] (s1++s2) p.z (yP xs ys) (AtZ P p xs ys s1 s2) (jhq P p xs ys s1 s2) where
 keepAt i h h' x m ko:=by
  obtain ⟨⟨⟨f1,hz⟩,_,hTI,⟨a,b,hTO⟩,h1,h2⟩,q⟩:=x
  have hz':=ko _ _ (.inl (.inl rfl)) hz
  exact ⟨⟨⟨f1,hz'⟩,.free _ hz',ko _ _ (.inl (.inr (.inl rfl))) hTI,⟨a,b,ko _ _ (.inl (.inr (.inr (.inl rfl)))) hTO⟩,h1.keeps fun o e=>ko _ o (.inl (.inr (.inr (.inr (.inl rfl))))) e,
   h2.keeps fun o e=>ko _ o (.inl (.inr (.inr (.inr (.inr rfl))))) e⟩,q.mono m⟩
 alive i h x:=x.t.s.alive
 aliveMid i v h x:=x.t.elim fun _ z=>z.2.s.alive
 pinned _ h _ _:=Qa (h:=h)
 next E i st s x Q S hs X hx hQ:=by
  obtain ⟨us,ws,t1,t2,v1,v2,_⟩:=X.q.at_ S hs
  refine vT hh D X.t t1 t2 (fun u u' h' hu hu' hz' hT hk=>?_) fun h' n _=>QK (v1.length.trans Array.length_toList) (v2.length.trans Array.length_toList) hx n
  have m:Mono P s.heap h':=uU hd (VQ hk)
  apply OR v1 v2 hu hu' hx
  intro x1 x2 ex vu vu'
  exact hQ _ h' _ ⟨⟨_,rfl,hz'⟩,X.q.mono m⟩ (ex▸uP S (j3 _) m ⟨_,hT,rfl,_,rfl⟩ vu vu') (VQ hk)
 done E i st s Q S hs X hx hQ:=by
  obtain ⟨us,ws,t1,t2,v1,v2,_⟩:=X.q.at_ S hs
  exact vT hh D X.t t1 t2 (fun u u' h' hu hu' _ _ _=>vR (v1.length.trans Array.length_toList) (v2.length.trans Array.length_toList) hx hu hu') fun h' _ hk=>hQ h' (VQ hk)
 go E i v s Q elts k pos X hQ:=by
  obtain ⟨⟨T,e,ho⟩,q⟩:=X
  apply vIs e
  refine jcm D ho fun h' hz' hs'=>?_
  have b:But (YT p) s.heap h':=fun b o nb e=>hs'.extBut b o (fun q=>nb (.inl q)) e
  exact hQ h' ⟨hz',q.mono (uU hd b)⟩ b
 skip h:=nomatch h
 self E i s Q X hQ:=zd X.t.s hQ
end
structure AtD(d it:Addr)(kvs:List (Int×Value))(ep i:Nat)(h:Heap):Prop where
 t:h.IsKeyIter it d i kvs.length ep
 q:h.DictAt (intKind prog w) d kvs ep
theorem jeC{es:List (Int×MV)}{kvs:List (Int×Value)}{i:Nat}{x:MV}(hk:es.map (·.1)=kvs.map (·.1))(hx:(es.map fun e=>MV.int e.1)[i]? = some x):∃ k v,x=.int k/\kvs[i]? = some (k,v):=by
 rw [List.getElem?_map] at hx
 obtain ⟨e,he,f⟩:=Option.map_eq_some_iff.mp hx
 have:(kvs.map (·.1))[i]? = some e.1:=by rw [← hk,List.getElem?_map,he];rfl
 rw [List.getElem?_map] at this
 obtain ⟨kv,a,b⟩:=Option.map_eq_some_iff.mp this
 exact ⟨e.1,kv.2,f.symm,by rw [a,← b]⟩
theorem VX{k:Int}{v:Value}(h:(intKind prog w).is k v=true):∃ t,v=.int k t:=by
 cases v<;>simp [intKind,Value.isInt] at h
 exact ⟨_,by rw [h]⟩
theorem oP(hh:A.handled=none){d it:Addr}{es:List (Int×MV)}{kvs:List (Int×Value)}{ep:Nat}(hdi:P.dead it)(hne:d≠it)(hk:es.map (·.1)=kvs.map (·.1)) :
  ItOk A P true (· = it) [d] [(d,.fdict es)] it (es.map fun e=>.int e.1) (AtD d it kvs ep) (fun i _=>AtD d it kvs ep i) where
 keepAt i h h' x m ko:=⟨x.t.at fun o e=>ko _ o (.inl rfl) e,x.q.at' fun o e=>ko _ o (.inr (List.mem_singleton.mpr rfl)) e⟩
 alive i h x b hb:=x.t.elim fun _ z=>⟨_,hb▸z.1⟩
 aliveMid i v h x b hb:=x.t.elim fun _ z=>⟨_,hb▸z.1⟩
 pinned st h S hs a ha:=by
  rw [List.mem_singleton.mp ha]
  have e:=hs _ (List.mem_cons_self ..)
  exact ⟨fun ⟨o,e',n⟩=>(by cases e.symm.trans e';cases n),fun q=>no (S.dead _ q).2 e⟩
 next E i st s x Q S hs X hx hQ:=by
  obtain ⟨k,v,f,hkv⟩:=jeC hk hx
  refine wpAny_pyNext_dict_item X.t X.q hkv fun key h' hkey hit hsb=>?_
  exact hQ key h' s.toks ⟨hit,X.q.extBut hsb.extBut hne⟩ (f▸VX hkey) (But.ext hsb.extBut)
 done E i st s Q S hs X hx hQ:=by
  have hl:=congrArg List.length hk
  rw [List.length_map,List.length_map] at hl
  rw [List.getElem?_eq_none_iff,List.length_map,hl] at hx
  exact wpAny_pyNext_dict_end hh X.t X.q (List.getElem?_eq_none_iff.mpr hx) fun h' he=>hQ h' (But.ext he)
 go E i v s Q elts k pos X hQ:=letGo_keyiter X.t (hQ s.heap X zP)
 skip _ _ _ _ h:=h
 self E i s Q X hQ:=wpAny_pyIter_keyiter X.t hQ
end
set_option genCtorIdx true in
inductive Tg where | seq | range | enum | zip
noncomputable def Tg.one:Tg->Bool
 |.seq=>true
 |.range=>true
 |_=>false
inductive Itb (P:Pm) (g h:Heap):Value->List MV->List (Nat×MObj)->Tg->Prop
 | seq {k a xs src} (q:SeqSrc P g a k xs src):Itb P g h (.ref a) xs src .seq
 |range {R n t u v} (e:IsRange h R 0 n 1 t u v) (hn:0≤n/\n<jb):Itb P g h (.ref R) ((List.range n.toNat).map fun i:Nat=>MV.int i) [] .range
 | enum {e it l xs} (he:IsEnum h e it 0 .none) (hi:h.IsListIter it l 0) (fe:g.get? e=none) (fi:g.get? it=none) (hei:e≠it):Itb P g h (.ref e) (Jl 0 xs) [(l,.list xs)] .enum
 | zip {p xs ys s1 s2} (Z:VH p 0 h) (D:Jo p) (f:∀ a,YT p a->g.get? a=none) (q:ZSrc P p xs ys s1 s2 g):Itb P g h (.ref p.z) (yP xs ys) (s1++s2) .zip
section
variable {P:Pm}{A:Around}{st:St}{xs:List MV}{src:List (Nat×MObj)}{E:Value->Shared->Prop}{s:Shared}{tg:Tg}{v:Value}{g:Heap}
theorem yi{h h':Heap}(k:∀ a o,h.get? a=some o->h'.get? a=some o){a:Addr}(e:h'.get? a=none):h.get? a=none:=by
 cases z:h.get? a with
 |none=>rfl
 |some o=>exact no e (k _ _ z)
theorem qV{n:Int}(hn:0≤n/\n<jb):Builtin.Range.small 0 n 1=true :=
 small_one (by decide) (by decide) (by w_up) (by unfold jb at hn;w_up)
theorem XT{n:Int}(hn:0≤n):Builtin.Range.rangeSize 0 n 1=(n.toNat:Int) - ((0:Nat):Int):=by rw [rangeSize_one];split<;>w_up
inductive Its (A:Around) (P:Pm) (one:Bool) (own:Nat->Prop) (pin:List Nat) (src:List (Nat×MObj)) (it:Addr) (xs:List MV) (h:Heap):Prop
 | mk (At:Nat->Heap->Prop) (Mid:Nat->Value->Heap->Prop) (I:ItOk A P one own pin src it xs At Mid) (s:At 0 h)
theorem ZE(hh:A.handled=none){Q:Value->Shared->Prop}(I:Itb P g s.heap v xs src tg)(S:Sim P st g)(hs:ji src st)(hk:∀ a o,g.get? a=some o->s.heap.get? a=some o)
  (hQ:∀ it own pin h',(∀ a,own a->g.get? a=none)->(∀ own' off',(∀ a,own a->own' a)->(∀ a,own' a->g.get? a=none)->Its A (P.more own' off') tg.one own pin src it xs h') ->
   (∀ a,own a->∃ o,h'.get? a=some o)->(∀ a o,s.heap.get? a=some o->h'.get? a=some o)->Q (.ref it) { s with heap:=h' }) :
  wpAny (model prog w) A (pyIter v) Q E s:=by
 have fr:∀ b,b=s.heap.objs.size->g.get? b=none:=fun b hb=>yi hk (hb▸j3 s.heap)
 revert hs
 induction I with
 | @seq k a xs src q =>
  intro hs
  obtain ⟨_,us,n,o,ht,hv,_⟩:=q.at_ S hs
  have ht':SSrc k s.heap a us:=ht.keeps fun o e=>hk _ o e
  refine JZ ht' ?_
  have hne:a≠s.heap.objs.size:=ht'.there.elim fun _ z=>Nat.ne_of_lt (Heap.lt_size z)
  exact hQ _ (· = s.heap.objs.size) [] _ fr (fun own' off' hsub hfr=>⟨_,_,jcR hh (k:=k) (a:=a) (.inr (hsub _ rfl)) hne,sit_new,(q.more hfr).mono fun b ob e _=>jf _ _ _ _ (hk _ _ e)⟩) (fun b hb=>hb▸(sit_new (k:=k) (h:=s.heap) (a:=a)).there.imp fun _ z=>z.1) (jf _ _)
 | @range R n t u v e hlt =>
  intro hs
  refine wpAny_pyIter_range e (qV hlt) ?_
  have g:=j8 s.heap { cls:=.type "range_iterator",data:=.fields #[rawInt 0,rawInt (Builtin.Range.rangeSize 0 n 1),rawInt 1] } rfl
  exact hQ _ (· = s.heap.objs.size) [] _ fr (fun own' off' hsub hfr=>⟨_,_,Uw hh (.inr (hsub _ rfl)),XT hlt.1▸g,Nat.zero_le _⟩) (fun b hb=>⟨_,hb▸g⟩) (jf _ _)
 | @enum e it l xs he hi fe fi hei =>
  intro hs
  have X:AtE e it l 0 s.heap:=⟨⟨_,he⟩,hi⟩
  exact wpAny_pyIter_enum he (hQ _ (fun a=>a=e\/a=it) [] s.heap (fun b hb=>hb.elim (fun q=>q▸fe) (fun q=>q▸fi)) (fun own' off' hsub hfr=>⟨_,_,VL hh (.inr (hsub _ (.inl rfl))) (.inr (hsub _ (.inr rfl))) hei,X⟩)
   ((VL (A:=A) (P:=P.more (fun a=>a=e\/a=it) fun a q=>S.off (q.elim (fun q=>q▸fe) fun q=>q▸fi)) hh (.inr (.inl rfl)) (.inr (.inr rfl)) hei (xs:=xs)).alive 0 _ X) fun _ _ e=>e)
 |zip Z D f q =>
  intro hs
  exact zd Z.s (hQ _ _ [] s.heap f (fun own' off' hsub hfr=>⟨_,_,jbL hh D (fun a h=>.inr (hsub a h)),Z,(q.q1.more hfr).mono fun b ob e _=>hk _ _ e,(q.q2.more hfr).mono fun b ob e _=>hk _ _ e⟩) Z.s.alive fun _ _ e=>e)
theorem jbG(I:Itb P g s.heap v xs src tg)(S:Sim P st g)(hs:ji src st):xs.length≤jb:=by
 revert hs
 induction I with
 |seq q=>exact fun hs=>(q.at_ S hs).len
 |range e hn=>intro _;rw [List.length_map,List.length_range];unfold jb at *;w_up
 |enum he hi fe fi hei =>
  intro hs
  rw [Y4]
  obtain ⟨us,n,e1,hl,v⟩:=S.rep _ _ (hs _ (List.mem_cons_self ..))
  exact hl
 |zip Z D f q =>
  intro hs
  have:=(q.q1.at_ S (fun p hp=>hs p (List.mem_append_left _ hp))).len
  rw [List.length_zipWith];exact Nat.le_trans (Nat.min_le_left ..) this
end
theorem GO:typeLookup (.type "zip") "__len__" = pure none:=by rw [typeLookup_type,builtinLookup_eq_fast];kernel_rfl
theorem VC:typeLookup (.type "zip") "__length_hint__" = pure none:=by rw [typeLookup_type,builtinLookup_eq_fast];kernel_rfl
section
variable {P:Pm}{A:Around}{s:Shared}{p:Zp}{us ws:Array Value}{xs ys:List MV}
structure ZGo(P:Pm)(p:Zp)(us ws:Array Value)(xs ys:List MV)(i:Nat)(h:Heap):Prop where
 st:ZSt p i h
 s1:SSrc p.k1 h p.a1 us
 s2:SSrc p.k2 h p.a2 ws
 v1:Vs P h xs us.toList
 v2:Vs P h ys ws.toList
structure Fill(p:Zp)(S:Addr):Prop where
 o:¬ YT p S
 n1:p.a1≠S
 n2:p.a2≠S
 b:h₀.get? S=none
def jdB(p:Zp)(S:Addr)(h h':Heap):Prop:=∀ b o,b≠S->¬ YT p b->h.get? b=some o->h'.get? b=some o
def All(P:Pm)(h:Heap):Prop:=∀ a,P.dead a->∃ o,h.get? a=some o
theorem ZSt.but{i:Nat}{h h':Heap}{S:Addr}(x:ZSt p i h)(hS:¬ YT p S)(hc:∀ o,h.get? S=some o->o.cls≠.type "tuple")(hk:∀ b o,b≠S->h.get? b=some o->h'.get? b=some o):ZSt p i h':=by
 have ko:∀ a o,YT p a->h.get? a=some o->h'.get? a=some o:=fun a o q e=>hk a o (fun q'=>hS (q'▸q)) e
 refine ⟨?_,ko _ _ (.inr (.inl rfl)) x.ti,x.tO.imp fun a z=>z.imp fun b z=>ko _ _ (.inr (.inr (.inl rfl))) z,x.t1.keeps fun o e=>ko _ o (.inr (.inr (.inr (.inl rfl)))) e,x.t2.keeps fun o e=>ko _ o (.inr (.inr (.inr (.inr rfl)))) e⟩
 cases x.f with
 |free f1 e=>exact .free f1 (ko _ _ (.inl rfl) e)
 |held f1 T o e t c=>exact .held f1 T o (ko _ _ (.inl rfl) e) (hk T o (fun q=>hc o (q▸t) c) t) c
theorem Fill.mono{S:Addr}(F:Fill p S){h h':Heap}(hc:∀ o,h.get? S=some o->o.cls≠.type "tuple")(hk:∀ b o,b≠S->h.get? b=some o->h'.get? b=some o):Mono P h h':=fun b o e q=>hk b o (fun x=>by
 rw [x] at e q
 exact q.elim (fun q=>hc _ e q.1) fun q=>q F.b) e
theorem ZGo.but{i:Nat}{h h':Heap}{S:Addr}(Z:ZGo P p us ws xs ys i h)(F:Fill p S)(hc:∀ o,h.get? S=some o->o.cls≠.type "tuple")(hk:∀ b o,b≠S->h.get? b=some o->h'.get? b=some o):ZGo P p us ws xs ys i h' :=
 ⟨Z.st.but F.o hc hk,Z.s1.keeps fun o e=>hk _ o F.n1 e,Z.s2.keeps fun o e=>hk _ o F.n2 e,Z.v1.mono (F.mono hc hk),Z.v2.mono (F.mono hc hk)⟩
theorem QE{h:Heap}{S:Addr}{acc:Array Value}{c:Nat}(e:h.get? S=some (jL acc c))(o:Obj)(z:h.get? S=some o):o.cls≠.type "tuple":=by
 rw [← Option.some.inj (e.symm.trans z)];exact (by decide:Value.type "list"≠.type "tuple")
structure ZY(P:Pm)(p:Zp)(S:Addr)(us ws:Array Value)(xs ys:List MV)(i:Nat)(acc:Array Value)(c:Nat)(h:Heap):Prop where
 Z:ZGo P p us ws xs ys i h
 al:All P h
 e:h.get? S=some (jL acc c)
 v:Vs P h ((yP xs ys).take i) acc.toList
 l:acc.size=i
theorem UN{i n:Nat}(h:i<n)(l:n≤jb):i<sizeLine/\i+1≤sizeLine+1:=⟨Nat.lt_of_lt_of_le h (Nat.le_trans l (Nat.le_of_lt jE)),Nat.succ_le_succ (Nat.le_of_lt (Nat.lt_of_lt_of_le h (Nat.le_trans l (Nat.le_of_lt jE))))⟩
theorem o5{S:Addr}{i:Nat}{acc:Array Value}{c:Nat}{h h':Heap}{u v:Value}(D:Jo p)(hd:∀ a,YT p a->P.dead a)(F:Fill p S)(X:ZY P p S us ws xs ys i acc c h)(hu:us[i]? = some u)(hv:ws[i]? = some v)
  (hst:ZSt p (i+1) h') (hT:IsPair h' h.objs.size u v) (hk:Yd p h h'):ZY P p S us ws xs ys (i+1) (acc.push (.ref h.objs.size)) (c+1) (h'.update S (Obj.mapSeq (·.push (Value.ref h.objs.size))))/\jdB p S h (h'.update S (Obj.mapSeq (·.push (Value.ref h.objs.size)))):=by
 obtain ⟨Z,al,e,v0,l⟩:=X
 have kp:=VQ hk
 have m:Mono P h h':=uU hd kp
 have e':=kp _ _ F.o e
 have oth:∀ b o,b≠S->h'.get? b=some o->(h'.update S (Obj.mapSeq (·.push (Value.ref h.objs.size)))).get? b=some o:=fun b o hb e=>(Heap.get?_update_other _ _ (Ne.symm hb)).trans e
 have e2:=Heap.get?_update_self (Obj.mapSeq (·.push (Value.ref h.objs.size))) e' rfl
 generalize h'.update S (Obj.mapSeq (·.push (Value.ref h.objs.size)))=h₂ at oth e2 ⊢
 have m2:Mono P h' h₂:=F.mono (QE e') oth
 have n:∀ {G:Prop},P.dead h.objs.size->G:=fun q=>(al _ q).elim fun _ z=>no (j3 _) z
 have hx:=(List.getElem?_eq_some_iff (l:=us.toList) (i:=i) (a:=u)).mp (by rw [Array.getElem?_toList];exact hu)
 refine ⟨⟨⟨hst.but F.o (QE e') oth,Z.s1.keeps fun o e=>oth _ o F.n1 (hk _ o D.a1z D.a1TO D.a1i1 D.a1i2 e),Z.s2.keeps fun o e=>oth _ o F.n2 (hk _ o D.a2z D.a2TO D.a2i1 D.a2i2 e),(Z.v1.mono m).mono m2,(Z.v2.mono m).mono m2⟩,fun a da=>?_,by simpa [Obj.mapSeq] using e2,?_,by rw [Array.size_push,l]⟩,fun b o hb nb e=>oth b o hb (kp b o nb e)⟩
 ·by_cases q:a=S
  ·exact ⟨_,q▸e2⟩
  ·by_cases y:YT p a
   ·exact (hst.alive a y).imp fun o e=>oth _ _ q e
   ·exact (al a da).imp fun o e=>oth _ _ q (kp _ _ y e)
 ·rw [List.take_add_one,Array.toList_push]
  cases z:(yP xs ys)[i]? with
  |none=>exact vR (Z.v1.length.trans Array.length_toList) (Z.v2.length.trans Array.length_toList) z hu hv
  |some x =>
   refine Vs.snoc ((v0.mono m).mono m2) (V.mono m2 _ _ ?_)
   apply OR Z.v1 Z.v2 hu hv z
   intro x1 x2 ex vu vu'
   exact ex▸⟨_,_,rfl,⟨n,show 2≤jb by decide⟩,⟨_,hT,rfl,_,rfl⟩,u,_,rfl,vu.mono m,v,_,rfl,vu'.mono m,rfl⟩
theorem oX{R:Result->Shared->Prop}(hh:A.handled=none)(D:Jo p)(hd:∀ a,YT p a->P.dead a){S:Addr}(F:Fill p S)(hlen:xs.length≤jb)(res:Value)(k:Nat) :
  ∀ (i:Nat) (s:Shared) (acc:Array Value) (c:Nat),(yP xs ys).length=i+k->ZY P p S us ws xs ys i acc c s.heap ->
  (∀ h' acc' c',jdB p S s.heap h'->h'.get? S=some (jL acc' c')->Vs P h' (yP xs ys) acc'.toList->R (.ok (.ret res)) { s with heap:=h' }) ->
  codeAny (model prog w) A (.builtin "list.extend.loop" ⟨[.ref S,.ref p.z,res],[]⟩) R s:=by
 have hzl:(yP xs ys).length≤jb:=by rw [List.length_zipWith];exact Nat.le_trans (Nat.min_le_left ..) hlen
 induction k with
 |zero =>
  intro i s acc c hk X hR
  refine codeAny_builtin PySem.F.entry_extend_loop ?_
  rw [Around.under_plainId PySem.F.plain_extend_loop _]
  show wpAny _ A.in1 (pyNext (.ref p.z)>>=_) _ _ s
  refine wpAny_bind (XA hh D X.Z.st X.Z.s1 X.Z.s2 (fun x y h' a b _ _ _ _=>vR (X.Z.v1.length.trans Array.length_toList) (X.Z.v2.length.trans Array.length_toList) (List.getElem?_eq_none_iff.mpr (Nat.le_of_eq hk)) a b) fun h' _ hkeep=>?_)
  have v:=X.v
  rw [List.take_of_length_le (i:=i) (Nat.le_of_eq hk)] at v
  exact wpAny_pure (hR h' acc c (fun b o _ nb e=>VQ hkeep b o nb e) (VQ hkeep _ _ F.o X.e) (v.mono (uU hd (VQ hkeep))))
 |succ k ih =>
  intro i s acc c hk X hR
  have hi:i<(yP xs ys).length:=hk▸Nat.lt_add_of_pos_right (Nat.succ_pos k)
  have g:=UN hi hzl
  refine codeAny_builtin PySem.F.entry_extend_loop ?_
  rw [Around.under_plainId PySem.F.plain_extend_loop _]
  show wpAny _ A.in1 (pyNext (.ref p.z)>>=_) _ _ s
  refine wpAny_bind (XA hh D X.Z.st X.Z.s1 X.Z.s2 (fun x y h' hu hu' hst _ hT hkeep=>?_) fun h' n _=>QK (X.Z.v1.length.trans Array.length_toList) (X.Z.v2.length.trans Array.length_toList) (List.getElem?_eq_getElem hi) n)
  show wpAny _ A.in1 (updateSeq S (·.push (Value.ref s.heap.objs.size))>>=_) _ _ _
  obtain ⟨X',b⟩:=o5 D hd F X hu hu' hst hT hkeep
  refine wpAny_bind (wpAny_updateSeq (VQ hkeep _ _ F.o X.e) rfl ?_ (X.l▸Nat.le_of_lt g.1) (by show (acc.push _).size≤sizeLine+1;rw [Array.size_push,X.l];exact g.2))
  exact wpAny_pure ⟨plainId_quiet PySem.F.plain_extend_loop _,ih (i+1) _ _ _ (hk.trans (Nat.succ_add_eq_add_succ i k).symm) X' fun h'' acc' c' hkk hSS hVV=>hR h'' acc' c' (fun a o ha na e=>hkk a o ha na (b a o ha na e)) hSS hVV⟩
end
section
variable {P:Pm}{A:Around}{s:Shared}{E:Value->Shared->Prop}{st:St}{p:Zp}{us ws:Array Value}{xs ys:List MV}
theorem oB{h:Heap}:Vs P h [] []:=rfl
theorem Gv{R:Result->Shared->Prop}(hh:A.handled=none)(D:Jo p)(hd:∀ a,YT p a->P.dead a){S:Addr}(F:Fill p S)(hlen:xs.length≤jb)(res:Value)(c₀:Nat)(X:ZY P p S us ws xs ys 0 #[] c₀ s.heap)
  (hR:∀ h' acc' c',jdB p S s.heap h'->h'.get? S=some (jL acc' c')->Vs P h' (yP xs ys) acc'.toList->R (.ok (.ret res)) { s with heap:=h' }) :
  wpAny (model prog w) A.in1 (Builtin.List.listExtendWith (.ref S) (.ref p.z) res)
   (fun fin s'=>match fin with | .done f=>R (.ok f) s' | .again c'=>c'.quiet=true/\codeAny (model prog w) A c' R s') (fun e s'=>R (.error e) s') s:=by
 have hSz:S≠p.z:=fun e=>F.o (.inl e)
 have hS:=X.e
 have hT:=X.Z.st.f.at
 unfold Builtin.List.listExtendWith
 refine wpAny_bind (wpAny_typeOf hT ?_)
 have h1:Builtin.List.listSameRef (.ref S) (.ref p.z)=false:=by simp [Builtin.List.listSameRef,hSz]
 have h2:(Value.type "zip"==Value.type "list")=false:=by decide
 have h3:(Value.type "zip"==Value.type "tuple")=false:=by decide
 simp only [h1,h2,h3,Bool.or_false,Bool.false_eq_true,if_false]
 refine wpAny_bind (zd X.Z.st ?_)
 refine wpAny_bind (wpAny_holding ?_)
 unfold Builtin.List.listLengthHint
 refine wpAny_bind (wpAny_specialOf hT GO ?_)
 show wpAny _ A.in1 (specialOf (Value.ref p.z) (Str.ofString "__length_hint__")>>=_) _ _ _
 refine wpAny_bind (wpAny_specialOf hT VC ?_)
 refine wpAny_pure ?_
 show wpAny _ A.in1 (rule "list.extend.makes-room">>=fun _=>Builtin.List.listTouch (.ref S)>>=fun _ =>
  again (.builtin "list.extend.loop" ⟨[.ref S,.ref p.z,res],[]⟩)) _ _ _
 refine wpAny_bind (wpAny_rule ?_)
 refine wpAny_bind ?_
 show wpAny _ A.in1 (updateSeq S (·.push .none)>>=fun _=>updateSeq S (·.pop)) _ _ _
 refine wpAny_bind (wpAny_updateSeq hS rfl ?_)
 have hS₂:=Heap.get?_update_self (Obj.mapSeq (·.push Value.none)) hS rfl
 refine wpAny_updateSeq (hz:=by seq_fits) hS₂ rfl ?_
 have hS₃:=Heap.get?_update_self (Obj.mapSeq (·.pop)) hS₂ rfl
 have oth:∀ b o,b≠S->s.heap.get? b=some o->((s.heap.update S (Obj.mapSeq (·.push Value.none))).update S (Obj.mapSeq (·.pop))).get? b=some o :=
  fun b o hb e=>(Heap.get?_update_other _ _ (Ne.symm hb)).trans ((Heap.get?_update_other _ _ (Ne.symm hb)).trans e)
 refine wpAny_pure ⟨plainId_quiet PySem.F.plain_extend_loop _,oX hh D hd F hlen res _ 0 _ _ _ (Nat.zero_add _).symm ⟨X.Z.but F (QE hS) oth,fun a da=>?_,hS₃,oB,rfl⟩ fun h' acc' c' hk hS' hacc=>hR h' acc' c' (fun b o hb nb e=>hk b o hb nb (oth b o hb e)) hS' hacc⟩
 by_cases haS:a=S
 ·rw [haS];exact ⟨_,hS₃⟩
 ·exact (X.al a da).imp fun o e=>oth _ _ haS e
theorem X3{Q:Value->Shared->Prop}(hh:A.handled=none)(D:Jo p)(hd:∀ a,YT p a->P.dead a)(hbase:∀ a,s.heap.get? a=none->h₀.get? a=none)
  (hlen:xs.length≤jb) (Z:ZGo P p us ws xs ys 0 s.heap) (hal:All P s.heap)
  (hQ:∀ h' acc' c',(∀ b o,¬ YT p b->s.heap.get? b=some o->h'.get? b=some o)->h'.get? s.heap.objs.size=some (jL acc' c')->Vs P h' (yP xs ys) acc'.toList->Q (.ref s.heap.objs.size) { s with heap:=h' }) :
  wpAny (model prog w) A (call (.type "list") [.ref p.z]) Q E s:=by
 have fresh:=j3 s.heap
 have lt:∀ {a o},s.heap.get? a=some o->a≠s.heap.objs.size:=fun e q=>no fresh (q▸e)
 have F:Fill p s.heap.objs.size:=⟨fun q=>(hal _ (hd _ q)).elim fun _ e=>lt e rfl,Z.s1.there.elim fun _ e=>lt e,Z.s2.there.elim fun _ e=>lt e,hbase _ fresh⟩
 refine callType_codes (Q₁:=fun obj s₁=>obj=.ref s.heap.objs.size/\s₁ = { s with heap:=s.heap.push { cls:=.type "list",data:=.seq #[] } }) PySem.F.called_list (PySem.F.typeCall_list_1 _) PySem.F.entry_list_init
  (code_list_new _ ⟨rfl,rfl⟩) fun obj s₁ h₁=>?_
 obtain ⟨rfl,rfl⟩:=h₁
 have hS:=j8 s.heap { cls:=.type "list",data:=.seq #[] } rfl
 refine ⟨⟨_,hS,rfl⟩,PySem.F.args_list_init_2 _ _,?_⟩
 show wpAny _ A.in1.in1 (do let old ← Builtin.List.listItems (.ref s.heap.objs.size);Builtin.List.listUpdate (.ref s.heap.objs.size) (fun _=>#[]);letGo old.toList.reverse;Builtin.List.listExtendWith (.ref s.heap.objs.size) (.ref p.z) .none) _ _ _
 refine wpAny_bind ?_
 unfold Builtin.List.listItems
 refine wpAny_bind (wpAny_seqItems hS rfl (wpAny_pure ?_))
 show wpAny _ A.in1.in1 (updateSeq s.heap.objs.size (fun _=>#[])>>=fun _=>letGo (#[]:Array Value).toList.reverse>>=fun _=>Builtin.List.listExtendWith (.ref s.heap.objs.size) (.ref p.z) .none) _ _ _
 refine wpAny_bind (wpAny_updateSeq hS rfl ?_)
 have hS₂:=Heap.get?_update_self (Obj.mapSeq (fun _=>(#[]:Array Value))) hS rfl
 have oth:∀ b o,b≠s.heap.objs.size->s.heap.get? b=some o->((s.heap.push { cls:=.type "list",data:=.seq #[] }).update s.heap.objs.size (Obj.mapSeq (fun _=>(#[]:Array Value)))).get? b=some o :=
  fun b o hb e=>(Heap.get?_update_other _ _ (Ne.symm hb)).trans (jf _ _ b o e)
 refine wpAny_bind (wpAny_letGo ?_)
 exact Gv (A:=A.in1) hh D hd F hlen .none _ ⟨Z.but F (fun o e=>no fresh e) oth,fun a da=>(hal a da).imp fun o e=>oth _ _ (lt e) e,hS₂,oB,rfl⟩ fun h' acc' c' hk hS' hacc=>⟨rfl,hQ h' acc' c' (fun b o nb e=>hk b o (lt e) nb (oth b o (lt e) e)) hS' hacc⟩
theorem GJ{l:List Value}:∀ {m:Nat}{f:Nat->Int},l.length=m->(∀ (j:Nat) (v:Value),l[j]? = some v->∃ t,v=.int (f j) t)->IntsAre l ((List.range m).map f):=by
 induction l with
 |nil=>intro m f e _;rw [← e];exact .nil
 |cons v r ih =>
  intro m f e hf
  obtain ⟨t,q⟩:=hf 0 _ rfl
  rw [← e,List.length_cons,List.range_succ_eq_map,List.map_cons,List.map_map,q]
  exact .cons _ _ (ih (f:=f∘Nat.succ) rfl fun j v hj=>hf (j+1) v hj)
theorem Uy{tg:Tg}{s₀:Shared}{v:Value}{xs:List MV}{src:List (Nat×MObj)}{K:MV->St->Prop}(hh:A.handled=none)(I:Itb P s₀.heap s.heap v xs src tg)(ht:tg≠.enum)(S:Sim P st s₀.heap)(hs:ji src st)
  (he:∃ h tk,s = { s₀ with heap:=h,toks:=tk }) (hk:∀ a o,s₀.heap.get? a=some o->s.heap.get? a=some o) (hb:xs.length<jb) (k:jq st (.list xs) K) :
  wpAny (model prog w) A (call (.type "list") [v]) (Post P st s₀ K) NoE s:=by
 obtain ⟨hp,tk,rfl⟩:=he
 have fr:s₀.heap.get? hp.objs.size=none:=yi hk (j3 hp)
 revert hs ht hb k
 induction I with
 | @seq k' a xs src q =>
  intro ht hs hb k
  obtain ⟨_,us,n,o,hS,hv,hz,e,hc,hd⟩:=q.at_ S hs
  refine call_list_seq a (T:=if k' then "tuple" else "list") (by cases k'<;>simp) (hk _ _ e) hc hd (fun h' c' hkk hg=>?_) (Nat.le_of_lt (Nat.lt_trans (hz▸hb) jE))
  have kp:∀ b ob,s₀.heap.get? b=some ob->h'.get? b=some ob:=fun b ob e=>hkk _ _ (hk _ _ e)
  exact Post.newList S k fr kp hg (Nat.le_of_lt hb) (hv.mono (S.monoK kp))
 | @range R n t u v' e hlt =>
  intro ht hs hb k
  have hrs:Builtin.Range.rangeSize 0 n 1=n.toNat:=by rw [XT hlt.1];exact Int.sub_zero _
  refine call_list_range hh e (qV hlt) hrs (by unfold jb at hlt;w_up) fun h' tk' acc' c' hkk hg hit=>?_
  have kp:∀ b ob,s₀.heap.get? b=some ob->h'.get? b=some ob:=fun b ob e=>hkk _ _ (hk _ _ e)
  refine Post.newList S k fr kp hg (Nat.le_of_lt hb) ?_
  have:(List.range n.toNat).map (fun i:Nat=>MV.int i)=((List.range n.toNat).map fun i:Nat=>(i:Int)).map MV.int:=by rw [List.map_map];rfl
  rw [this,Vs.ints]
  refine GJ (by simpa using hit.1) fun j v hj=>?_
  exact (hit.2 j v (by rw [← Array.getElem?_toList];exact hj)).imp fun t e=>e.trans (by simp)
 |enum=>exact fun ht=>absurd rfl ht
 |zip Z D f q =>
  intro ht hs hb k
  have off:∀ a,YT _ a->h₀.get? a=none:=fun a q=>S.off (f a q)
  obtain ⟨us,ws,t1,t2,v1,v2,l⟩:=q.at_ S hs
  have m:Mono (P.more _ off) s₀.heap hp:=.keep hk
  refine X3 (P:=P.more _ off) hh D (fun a q=>.inr q) (fun a e=>S.off (yi hk e)) l ⟨Z.s,t1.keeps fun o e=>hk _ _ e,t2.keeps fun o e=>hk _ _ e,(v1.more f).mono m,(v2.more f).mono m⟩
   (fun a da=>da.elim (fun da=>(S.dead a da).1.imp fun o e=>hk _ _ e) fun da=>Z.s.alive a da) fun h' acc' c' hkk hg hV=>?_
  have kp:∀ b ob,s₀.heap.get? b=some ob->h'.get? b=some ob:=fun b ob e=>hkk _ _ (fun q=>no (f _ q) e) (hk _ _ e)
  exact Post.newList S k fr kp hg (Nat.le_of_lt hb) hV.less
theorem Uu{h:Heap}{es:List (Int×MV)}{kvs:List (Int×Value)}(q:KvsAre P h es kvs):∀ {l:List Value},l.length=kvs.length->(∀ (j:Nat) (v:Value),l[j]? = some v->∃ k x,kvs[j]? = some (k,x)/\(intKind prog w).is k v=true)->IntsAre l (es.map (·.1)):=by
 refine Pw.ind (G:=fun es kvs=>∀ {l:List Value},l.length=kvs.length->(∀ (j:Nat) (v:Value),l[j]? = some v->∃ k x,kvs[j]? = some (k,x)/\(intKind prog w).is k v=true)->IntsAre l (es.map (·.1))) (fun e _=>?_) (fun f e es kvs z _ ih l hl hf=>?_) q
 ·rw [List.length_eq_zero_iff.mp e];exact .nil
 ·cases l with
  |nil=>cases hl
  |cons a l =>
   obtain ⟨k,x,hx,hk⟩:=hf 0 a rfl
   obtain ⟨t,y⟩:=VX hk
   have y':k=f.1:=(congrArg Prod.fst (Option.some.inj hx)).symm.trans z.1
   rw [y,y']
   exact .cons _ _ (ih (Nat.succ.inj hl) fun j v hj=>hf (j+1) v hj)
theorem Gy{r:Nat}{es:List (Int×MV)}{K:MV->St->Prop}(hh:A.handled=none)(S:Sim P st s.heap)(hs:SysOk P)(h1:st r=some (.idict es))(k:jq st (.list (es.map fun e=>.int e.1)) K) :
  wpAny (model prog w) A (call (.type "list") [.ref r]) (Post P st s K) NoE s:=by
 obtain ⟨kvs,hd,hbl,hkv⟩:=S.rep _ _ h1
 obtain ⟨ep,hd⟩:=hd.dictAt
 refine kdl_call (kdl_dict (Y0 S hs h1)) hh hd (Nat.le_of_lt (Nat.lt_of_le_of_lt (Pw.length hkv▸hbl.1) jE)) fun h' tk acc' c' kp hg hit=>?_
 refine Post.newList S k (j3 _) kp hg (by rw [List.length_map];exact hbl.1) ?_
 have:(es.map fun e=>MV.int e.1)=(es.map (·.1)).map MV.int:=by rw [List.map_map];rfl
 rw [this,Vs.ints]
 exact Uu hkv (by simpa using hit.1) fun j v hj=>hit.2 j v (by rw [← Array.getElem?_toList];exact hj)
end
theorem Ql:typeLookup (.type "list") "keys" = pure none:=by rw [typeLookup_type,builtinLookup_eq_fast];kernel_rfl
theorem Xl{A:Around}{E:Value->Shared->Prop}{s:Shared}{a:Addr}{xs:Array Value}{k:Nat}{Q:Option Value->Shared->Prop}
  (hx:s.heap.get? a=some (jL xs k)) (hA:A.handled=none)
  (h:∀ h' tk,(∀ b o,s.heap.get? b=some o->h'.get? b=some o)->Q none { s with heap:=h',toks:=tk }) :
  wpAny (model prog w) A (getAttr? (.ref a) "keys") Q E s:=by
 obtain ⟨hp,g,d,tk,os⟩:=s
 have hT:∀ tk',(⟨hp,g,d,tk',os⟩:Shared).TypeIs (.ref a) "list":=fun _=>⟨_,hx,rfl⟩
 have f1:=sub_AttributeError
 have f3:=F.slot_list_getattribute.lookup
 have f4:=F.slot_list_getattribute.bind (.ref a)
 have f5:=am_list_getattr_none
 unfold getAttr? getAttrBy? getAttrBy
 repeat (any_goals (first | assumption | exact hT _ | ((with_reducible show wpAny _ _ (call (Value.builtin "list.__getattribute__") _ _) _ _ _);refine call_meets F.slot_list_getattribute (hT _) am_entry_list_getattribute (F.args_list_getattribute_2 _ _) (meets_getattribute_miss_list a xs k #[] "keys" _ Ql (by decide +kernel) (by rw [sizeLine_eq];decide +kernel)) ⟨hx,hA,fun h' tk' e hx'=>?_⟩) | wp_step))
 obtain ⟨t',u',he⟩:=hx'.there
 show wpAny _ _ (getattributeRaised _ _ _ _ _ _ _) _ _ _
 unfold getattributeRaised
 repeat (any_goals (first | assumption | wp_step))
 exact h _ _ hx'.keeps
theorem y3:entryFor PySem.table "dict.update.loop" = some Builtin.«dict.update.loop»:=entryFor_of_tree (by kernel_rfl)
theorem jW:plainId "dict.update.loop" = true:=by decide +kernel
noncomputable abbrev uy(es:List (Int×MV)):List MV:=es.map fun e=>.tup [.int e.1,e.2]
noncomputable abbrev JW(es:List (Int×MV)):List (Int×MV):=es.foldl (fun d e=>Ju d e.1 e.2) []
theorem Y5(es:List (Int×MV)):(JW es).length≤es.length:=by
 have:∀ (es d:List (Int×MV)),(es.foldl (fun d e=>Ju d e.1 e.2) d).length≤d.length+es.length:=by
  intro es
  induction es with
  |nil=>intro d;simp
  |cons x es ih=>intro d;rw [List.foldl_cons];have h1:=ih (Ju d x.1 x.2);have h2:=xk d x.1 x.2;rw [List.length_cons];w_up
 simpa using this es []
theorem Zf{es:List (Int×MV)}{i:Nat}{e:Int×MV}(h:es[i]? = some e):JW (es.take (i+1))=Ju (JW (es.take i)) e.1 e.2:=by
 rw [List.take_add_one,h];simp [JW,List.foldl_append]
section
variable {P:Pm}{A:Around}{s:Shared}{E:Value->Shared->Prop}{st:St}
theorem ub{h h':Heap}{a:Addr}{o:Obj}(e:h.get? a=some o)(n:o.cls≠.type "tuple")(b:h₀.get? a=none)(hx:Heap.ExtBut a h h'):Mono P h h':=fun c oc z q=>hx c oc (fun x=>by
 rw [x] at z q
 exact q.elim (fun q=>n (Option.some.inj (e.symm.trans z)▸q.1)) fun q=>q b) z
structure jbb(L it D:Addr):Prop where
 iL:L≠it
 Di:D≠it
 DL:L≠D
 ib:h₀.get? it=none
 Db:h₀.get? D=none
structure DSt(P:Pm)(es:List (Int×MV))(us:Array Value)(L it D:Addr)(i:Nat)(kvs:List (Int×Value))(h:Heap):Prop where
 t:SIt false h it L i
 l:SSrc false h L us
 v:Vs P h (uy es) us.toList
 d:h.DictOf (intKind prog w) D kvs
 q:KvsAre P h (JW (es.take i)) kvs
theorem DSt.itNt{es us L it D i kvs h}(X:DSt P es us L it D i kvs h){h':Heap}(F:jbb L it D)(hx:Heap.ExtBut it h h'):Mono P h h':=X.t.there.elim fun _ z=>ub z.1 z.2 F.ib hx
theorem jei{h h':Heap}{D:Addr}{kvs:List (Int×Value)}(hd:h.DictOf (intKind prog w) D kvs)(hDb:h₀.get? D=none)(hx:Heap.ExtBut D h h'):Mono P h h':=by
 obtain ⟨o',es',ep',e',hx',_⟩:=hd
 exact ub e' (by rw [hx'.1];simp) hDb hx
inductive jgd (P:Pm) (h:Heap) (a:Int) (x:MV) (v:Value):Prop
 | mk (T:Addr) (t:Tok) (u:Value) (e:v=.ref T) (k:V P h x u) (i:h.IsTuple T #[.int a t,u])
theorem vip{h:Heap}{a:Int}{x:MV}{v:Value}(k:V P h (.tup [.int a,x]) v):jgd P h a x v:=by
 obtain ⟨r,xs,e,_,hx,q⟩:=k
 have hx:=jey hx
 generalize xs.toList=l at q hx
 revert hx
 apply v8 q;intro t z q
 obtain ⟨y,_,f,hy,q⟩:=q
 rw [f,show _=[] from q];exact fun hx=>⟨r,t,y,e,hy,hx⟩
theorem VT{R:Result->Shared->Prop}(hh:A.handled=none){es:List (Int×MV)}{us:Array Value}{L it D:Addr}(F:jbb L it D)(hlen:es.length≤jb)(res:Value)(k:Nat) :
  ∀ (i:Nat) (s:Shared) (kvs:List (Int×Value)) (t:Tok),es.length=i+k->DSt P es us L it D i kvs s.heap ->
  (∀ h' tk kvs',(∀ b o,b≠it->b≠D->s.heap.get? b=some o->h'.get? b=some o)->h'.DictOf (intKind prog w) D kvs'->KvsAre P h' (JW es) kvs'->R (.ok (.ret res)) { s with heap:=h',toks:=tk }) ->
  codeAny (model prog w) A (.builtin "dict.update.loop" ⟨[.ref D,.ref it,.int i t,res],[]⟩) R s:=by
 induction k with
 |zero =>
  intro i s kvs t hk X hR
  refine codeAny_builtin y3 ?_
  rw [Around.under_plainId jW _]
  show wpAny _ A.in1 (pyNext (.ref it)>>=_) _ _ s
  have hn:us[i]? = none:=ZX (X.v.length.trans Array.length_toList) (List.getElem?_eq_none_iff.mpr (by rw [List.length_map];exact Nat.le_of_eq hk))
  refine wpAny_bind (zt hh X.t X.l hn fun h' hx=>?_)
  show wpAny _ _ (Builtin.Dict.addKeywords D []>>=_) _ _ _
  have q:=X.q
  rw [List.take_of_length_le (i:=i) (Nat.le_of_eq hk)] at q
  exact wpAny_bind (wpAny_pure (wpAny_pure (hR h' _ kvs (fun b o hb _ e=>hx b o hb e) (X.d.extBut hx F.Di) (q.mono (X.itNt F hx)))))
 |succ k ih =>
  intro i s kvs t hk X hR
  have hlt:i<es.length:=hk▸Nat.lt_add_of_pos_right (Nat.succ_pos k)
  have e1:es[i]? = some es[i]:=List.getElem?_eq_getElem hlt
  have room:kvs.length<sizeLine:=by
   have h1:=Y5 (es.take i)
   rw [List.length_take,Pw.length X.q] at h1
   exact Nat.lt_of_le_of_lt (Nat.le_trans h1 (Nat.le_trans (Nat.min_le_right ..) hlen)) jE
  refine codeAny_builtin y3 ?_
  rw [Around.under_plainId jW _]
  show wpAny _ A.in1 (pyNext (.ref it)>>=_) _ _ s
  obtain ⟨u,hu,vu⟩:=vV (x:=.tup [.int es[i].1,es[i].2]) X.v (by rw [List.getElem?_map,e1];rfl)
  refine wpAny_bind (xi X.t X.l hu fun h' hit' hsb=>?_)
  have m:=X.itNt F hsb.extBut
  obtain ⟨T,tk,xv,e,hxv,oT,hoT,hcT,nT,hdT⟩:=vip (vu.mono m)
  clear vu hu
  refine wpAny_bind (wpAny_holding (wpAny_bind ?_))
  refine wpAny_tryCatch ?_
  rw [e]
  unfold Builtin.Dict.pairItems
  refine wpAny_bind (wpAny_typeOf ⟨oT,hoT,hcT⟩ ?_)
  refine wpAny_ite_split (fun _=>?_) (fun q=>absurd (by decide) q)
  refine wpAny_bind (wpAny_seqItems hoT hdT (wpAny_pure ?_))
  dsimp only [Option.getD]
  have hnd:(kvs.map (·.1)).Nodup:=by obtain ⟨_,_,_,_,_,_,_,_,nd⟩:=X.d;exact nd
  have hd':=X.d.extBut hsb.extBut F.Di
  refine wpAny_holding (wpAny_dictSet_pairs (k:=es[i].1) (hsz:=Nat.le_of_lt room) vQ hd' fun h₂ hd₂ hs₂=>?_)
  have m2:Mono P h' h₂:=jei hd' F.Db hs₂.extBut
  refine wpAny_pure ⟨plainId_quiet jW _,?_⟩
  exact ih (i+1) _ _ 0 (hk.trans (Nat.succ_add_eq_add_succ i k).symm) ⟨hit'.extBut hs₂.extBut F.Di.symm,(X.l.extBut hsb.extBut F.iL).extBut hs₂.extBut F.DL,(X.v.mono m).mono m2,hd₂,Zf e1▸ZC (hxv.mono m2) ((X.q.mono m).mono m2) hnd⟩
   fun h'' tk' kvs' hk' hD' hkv'=>hR h'' tk' kvs' (fun b o b1 b2 e=>hk' b o b1 b2 (hs₂.extBut b o b2 (hsb.extBut b o b1 e))) hD' hkv'
theorem X5{r:Nat}{es:List (Int×MV)}{Q:MV->St->Prop}(hh:A.handled=none)(S:Sim P st s.heap)(hs:SysOk P)(h1:st r=some (.list (uy es)))(hq:jq st (.idict (JW es)) Q) :
  wpAny (model prog w) A (call (.type "dict") [.ref r]) (Post P st s Q) NoE s:=by
 obtain ⟨us,n,e1,hl,hv,z,_⟩:=S.lst h1
 rw [List.length_map] at hl
 have hfr:=j3 s.heap
 have lt:∀ {a o},s.heap.get? a=some o->a≠s.heap.objs.size:=fun e q=>no hfr (q▸e)
 refine callType_codes (Q₁:=fun obj s₁=>obj=.ref s.heap.objs.size/\s₁ = { s with heap:=s.heap.push { cls:=.type "dict",data:=.dict #[] } }) PySem.F.kt_called_dict (PySem.F.kt_typeCall_dict_1 _) PySem.F.entry_dict_init (kt_code_dict_new _ ⟨rfl,rfl⟩) ?_
 rintro obj s₁ ⟨rfl,rfl⟩
 have hnew:(s.heap.push { cls:=.type "dict",data:=.dict #[] }).DictOf (intKind prog w) s.heap.objs.size []:=Heap.DictOf.new s.heap
 have e1':=jf s.heap { cls:=.type "dict",data:=.dict #[] } _ _ e1
 refine ⟨hnew.typeIs,PySem.F.args_dict_init_2 _ _,?_⟩
 unfold Builtin.«dict.__init__»
 refine wpAny_bind ?_
 unfold Builtin.Dict.selfAndRest
 refine wpAny_bind (wpAny_notOrdered_dict hnew.typeIs ?_)
 show wpAny _ _ (pure (s.heap.objs.size,[Value.ref r])) _ _ _
 refine wpAny_pure ?_
 show wpAny _ _ (Builtin.Dict.updateFrom "dict.__init__" s.heap.objs.size (.ref r) [] .none) _ _ _
 unfold Builtin.Dict.updateFrom
 refine wpAny_bind (wpAny_typeOf (T:="list") ⟨_,e1',rfl⟩ ?_)
 rw [if_pos (by decide)]
 refine wpAny_bind (Xl e1' hh fun h₁ tk₁ hk₁=>?_)
 rw [if_pos (by rfl)]
 refine wpAny_bind (wpAny_rule ?_)
 have e2:=hk₁ _ _ e1'
 have kk:∀ b o,s.heap.get? b=some o->h₁.get? b=some o:=fun b o e=>hk₁ b o (jf _ _ b o e)
 have hD₁:h₁.DictOf (intKind prog w) s.heap.objs.size []:=hnew.keep hk₁
 have it_ne:s.heap.objs.size≠h₁.objs.size:=by
  obtain ⟨o,_,_,e,_⟩:=hD₁
  exact Nat.ne_of_lt (Heap.lt_size e)
 clear e1' hnew hk₁
 refine wpAny_bind (JZ (k:=false) (a:=r) (items:=us) (s:={ s with heap:=h₁,toks:=tk₁ }) (show h₁.IsList r us from ⟨_,e2,rfl,n,rfl⟩) ?_)
 have upp:=jf h₁ (xf false r)
 have F:jbb r h₁.objs.size s.heap.objs.size:=⟨Nat.ne_of_lt (Heap.lt_size e2),it_ne,lt e1,S.off (yi kk (j3 _)),S.off hfr⟩
 refine wpAny_pure ⟨plainId_quiet jW _,?_⟩
 refine VT (P:=P) (A:=A.in1) hh F hl .none es.length 0 _ [] 0 (Nat.zero_add _).symm ⟨sit_new,⟨_,upp _ _ e2,rfl,n,rfl⟩,hv.mono (.keep fun b o e=>upp b o (kk b o e)),hD₁.keep upp,.nil⟩ fun h' tk kvs' hk' hD' hkv'=>?_
 have kp:∀ b o,s.heap.get? b=some o->h'.get? b=some o:=fun b o e=>hk' b o (Nat.ne_of_lt (Heap.lt_size (kk b o e))) (lt e) (upp b o (kk b o e))
 exact ⟨rfl,.ref s.heap.objs.size,_,hq _ (S.st_none hfr),rfl,S.alloc hfr kp ⟨kvs',hD',⟨Nat.le_trans (Y5 es) hl,hs.ne S.keep (Nat.le_refl _)⟩,hkv'⟩,Go.alloc hfr kp⟩
end
inductive PostN (P:Pm) (kd:Kd) (env:Env) (D:Nat->Prop) (st:St) (s:Shared) (K:ja->St->Prop) (s':Shared):Prop
 | mk (ρ':ja) (st':St) (k:K ρ' st') (X:EnvOk P kd env ρ' s'.heap) (S:Sim P st' s'.heap) (g:GoX D st s st' s')
inductive PostR (P:Pm) (D:Nat->Prop) (st:St) (s:Shared) (K:MV->St->Prop) (f:Flow) (s':Shared):Prop
 | mk (v:Value) (mv:MV) (st':St) (e:f=.ret v) (k:K mv st') (h:V P s'.heap mv v) (S:Sim P st' s'.heap) (g:GoX D st s st' s')
def PostS(P:Pm)(kd:Kd)(env:Env)(D:Nat->Prop)(st:St)(s:Shared)(Kn:ja->St->Prop)(Kr:MV->St->Prop)(f:Flow)(s':Shared):Prop :=
 (f=.next/\PostN P kd env D st s Kn s')\/PostR P D st s Kr f s'
theorem Ys{names:List (Str×NameKind)}:∀ {n:Nat}{acc:List (Str×Addr)}{x:Str},(x,NameKind.cell)∈names\/(acc.lookup x).isSome=true->((cellsFrom n names acc).lookup x).isSome=true:=by
 induction names with
 |nil=>exact fun h=>h.elim (fun h=>nomatch h) id
 |cons q r ih =>
  intro n acc x h
  have step:cellsFrom n (q::r) acc=if q.2==.cell then cellsFrom (n+1) r ((q.1,n)::acc) else cellsFrom n r acc:=rfl
  rw [step]
  by_cases hk:q.2=.cell
  ·rw [if_pos (beq_iff_eq.mpr hk)]
   refine ih ?_
   by_cases hx:x=q.1
   ·right;rw [List.lookup_cons,hx,beq_self_eq_true];rfl
   ·rw [List.lookup_cons,beq_eq_false_iff_ne.mpr hx]
    exact h.imp (fun h=>(List.mem_cons.mp h).elim (fun e=>absurd (congrArg Prod.fst e) hx) id) id
  ·rw [if_neg fun e=>hk (beq_iff_eq.mp e)]
   exact ih (h.imp (fun h=>(List.mem_cons.mp h).elim (fun e=>absurd (congrArg Prod.snd e).symm hk) id) id)
structure jec(fd:FuncData)(fn:Fn):Prop where
 body:∃ b,fd.body=.stmts b/\J5 (fun x=>fd.scope.names.lookup x) fn.body b=true
 kind:fd.scope.kind=.function
 gen:fd.scope.isGenerator=false
 co:fd.scope.isCoroutine=false
 clo:fd.closure=[]
 glob:fd.globals=mainGlobals
 built:fd.builtins=builtinsNs
 pkind:∀ x∈fn.params,fd.scope.names.lookup (Str.ofString x)=some .local\/fd.scope.names.lookup (Str.ofString x)=some .cell
 nofree:∀ x,fd.scope.names.lookup x≠some .free
 nodup:fn.params.Nodup
 bind:∀ vals:List Value,vals.length=fn.params.length->bindArgs fd ⟨vals,[]⟩=pure ((fn.params.map Str.ofString).zip vals)
section
variable {P:Pm}
section
variable {kindOf:Str->Option NameKind}
theorem gZ{y:Str}{v:Value}{r:List (Str×Value)}{m:Str->Option Value}:bindL kindOf ((y,v)::r) m=bindL kindOf r (if kindOf y=some .local then fun z=>if z=y then some v else m z else m):=rfl
theorem Gc{y:Str}{v:Value}{r:List (Str×Value)}{m:Str->Option Value}:bindC kindOf ((y,v)::r) m=bindC kindOf r (if kindOf y=some .local then m else fun z=>if z=y then some v else m z):=rfl
theorem jgj{x y:Str}{v:Value}{m:Str->Option Value}{p:Prop}[Decidable p](h:x≠y):(if p then fun z=>if z=x then some v else m z else m) y=m y:=by
 split
 ·exact if_neg h.symm
 ·rfl
theorem gA{y:Str}{xs:List String}:∀ {vals:List Value}{m:Str->Option Value},(∀ x∈xs,Str.ofString x≠y)->bindL kindOf ((xs.map Str.ofString).zip vals) m y=m y:=by
 induction xs with
 |nil=>intros;rfl
 |cons x xs ih =>
  intro vals m h
  cases vals with
  |nil=>rfl
  |cons v vals=>exact (ih fun z hz=>h z (List.mem_cons_of_mem _ hz)).trans (jgj (h x (List.mem_cons_self ..)))
theorem gI{y:Str}{xs:List String}:∀ {vals:List Value}{m:Str->Option Value},(∀ x∈xs,Str.ofString x≠y)->bindC kindOf ((xs.map Str.ofString).zip vals) m y=m y:=by
 induction xs with
 |nil=>intros;rfl
 |cons x xs ih =>
  intro vals m h
  cases vals with
  |nil=>rfl
  |cons v vals =>
   refine (ih fun z hz=>h z (List.mem_cons_of_mem _ hz)).trans ?_
   split
   ·rfl
   ·exact if_neg (h x (List.mem_cons_self ..)).symm
end
theorem UA(locals:List String)(x:String):lk (locals.map fun y=>(y,(none:Option MV))) x=none:=by
 induction locals with
 |nil=>rfl
 |cons y r ih=>rw [List.map_cons,Jd];split;exact rfl;exact ih
structure jgo(P:Pm)(h:Heap)(kindOf:Str->Option NameKind)(l c:Str->Option Value)(x:String)(mv:MV):Prop where
 l:kindOf (Str.ofString x)=some .local->Fit P h mv (l (Str.ofString x))
 c:kindOf (Str.ofString x)=some .cell->Fit P h mv (c (Str.ofString x))
theorem gh{h:Heap}{kindOf:Str->Option NameKind}{locals:List String}{xs:List String}:∀ {args:List MV}{vals:List Value}{m cm:Str->Option Value}{x:String}{mv:MV},xs.Nodup->Vs P h args vals->xs.length=args.length ->
  lk (xs.zip (args.map some)++locals.map fun y=>(y,none)) x=some mv->jgo P h kindOf (bindL kindOf ((xs.map Str.ofString).zip vals) m) (bindC kindOf ((xs.map Str.ofString).zip vals) cm) x mv:=by
 induction xs with
 |nil =>
  intro args vals m cm x mv _ _ _ e
  rw [List.zip_nil_left,List.nil_append,UA] at e;cases e
 |cons y xs ih =>
  intro args vals m cm x mv nd hv hl e
  cases args with
  |nil=>cases hl
  |cons a args =>
   obtain ⟨v,r,q,hv1,hv2⟩:=hv
   rw [q]
   rw [List.nodup_cons] at nd
   rw [List.map_cons,List.zip_cons_cons,List.cons_append,Jd] at e
   by_cases hy:y=x
   ·rw [if_pos hy] at e
    rw [← Option.some.inj e]
    have hne:∀ x'∈xs,Str.ofString x'≠Str.ofString x:=fun z hz q=>nd.1 (by rw [hy,← jX q];exact hz)
    rw [hy]
    refine ⟨fun hk=>⟨v,?_,hv1⟩,fun hk=>⟨v,?_,hv1⟩⟩
    ·rw [List.map_cons,List.zip_cons_cons,gZ,gA hne,if_pos hk];exact if_pos rfl
    ·rw [List.map_cons,List.zip_cons_cons,Gc,gI hne,if_neg (by rw [hk];decide)];exact if_pos rfl
   ·rw [if_neg hy] at e
    exact ih nd.2 hv2 (Nat.succ.inj hl) e
variable {A:Around}{s:Shared}{st:St}
def jfc(P:Pm)(st:St)(s:Shared)(K:MV->St->Prop)(r:Result)(s':Shared):Prop:=∃ v,r=.ok (.ret v)/\Post P st s K v s'
theorem jcu{f:Addr}{o:Obj}{fd:FuncData}{fn:Fn}{args:List MV}{vals:List Value}{K:MV->St->Prop}(F:jec fd fn)(ho:s.heap.get? f=some o)(hd:o.data=.func fd)(hlim:s.heap.NoLimit)(hcd:s.heap.CodeRec fd.code fd.qualname)
  (hroom:A.depth<recursionLimit) (S:Sim P st s.heap) (hv:Vs P s.heap args vals) (hl:fn.params.length=args.length)
  (h:∀ (P':Pm) env s₁ b,fd.body=.stmts b->EnvOk P' (fun x=>fd.scope.names.lookup x) env (xI fn args) s₁.heap->Sim P' st s₁.heap ->
   wpAny (model prog w) (A.deeper env) (execs b env) (PostS P' (fun x=>fd.scope.names.lookup x) env (Fm env) st s₁ (fun _ st'=>K .none st') K) NoE s₁) :
  codeAny (model prog w) A (.call (.ref f) ⟨vals,[]⟩) (jfc P st s K) s:=by
 obtain ⟨b,hb,hchk⟩:=F.body
 refine codeAny_mono (codeAny_call_cells (R:=fun r s'=>jfc P st s K r s') hroom ho hd hlim hcd hb (F.bind vals (hv.length.symm.trans hl.symm)) F.clo (fun x hx=>?_) (fun s₁ I=>?_) F.co F.gen F.kind) fun _ _ q=>q
 ·have hm:=(List.of_mem_zip (a:=x.1) (b:=x.2) hx).1
  rw [List.mem_map] at hm
  obtain ⟨y,hy,e⟩:=hm
  rw [← e]
  exact (F.pkind y hy).imp id fun e=>⟨e,Ys (.inl (mem_of_lookup e))⟩
 ·have hfr:∀ a,Fm (callEnvC fd s.heap.objs.size f) a->s.heap.get? a=none:=by
   intro a ha
   cases z:s.heap.get? a with
   |none=>rfl
   |some ob =>
    have lt:=Heap.lt_size z
    rcases ha with e | ⟨x,hx⟩
    ·exact absurd (e▸lt) (Nat.lt_irrefl _)
    ·exact absurd (Nat.lt_trans lt (I.above x a (mem_of_lookup hx))) (Nat.lt_irrefl _)
  have off:∀ a,Fm (callEnvC fd s.heap.objs.size f) a->h₀.get? a=none:=fun a ha=>S.off (hfr a ha)
  have al:∀ a,Fm (callEnvC fd s.heap.objs.size f) a->∃ o,s₁.heap.get? a=some o:=fun a q=>q.elim (fun e=>e▸Ns.there I.toInCall.ns) fun ⟨x,hx⟩=>IsCell.there (I.cell x a hx)
  have S₁:=S.more (off:=off) hfr I.toInCall.keep al
  have hv₁:Vs (P.more _ off) s₁.heap args vals:=(hv.more hfr).mono (.keep I.toInCall.keep)
  have ib:=fun x mv e=>gh (P:=P.more _ off) (h:=s₁.heap) (kindOf:=(callEnvC fd s.heap.objs.size f).kindOf) (locals:=fn.locals) (m:=fun _=>none) (cm:=fun _=>none) (x:=x) (mv:=mv) F.nodup hv₁ hl e
  have X:EnvOk (P.more _ off) (fun x=>fd.scope.names.lookup x) (callEnvC fd s.heap.objs.size f) (xI fn args) s₁.heap:=by
   refine ⟨fun x=>rfl,F.kind,F.glob,F.built,fun a ha=>.inr ha,⟨_,I.toInCall.ns,fun x mv _ hk e=>(ib x mv e).l hk⟩,fun x hx=>?_,fun x y c h1 h2=>name_of_addr I.apart (mem_of_lookup h1) (mem_of_lookup h2)⟩
   have hx:=hx.resolve_right (F.nofree x)
   obtain ⟨c,hc⟩:=Option.isSome_iff_exists.mp (Ys (names:=fd.scope.names) (n:=s.heap.objs.size+1) (acc:=[]) (x:=x) (.inl (mem_of_lookup hx)))
   exact ⟨c,_,hc,Nat.ne_of_gt (I.above x c (mem_of_lookup hc)),I.cell x c hc,fun y v q e=>by rw [q] at hx ⊢;exact (ib y v e).c hx⟩
  refine wpAny_mono (h (P.more _ off) _ s₁ b hb X S₁) (fun fl s' p=>?_) fun _ _ e=>e.elim
  have g₁:GoX (Fm (callEnvC fd s.heap.objs.size f)) st s st s₁:=⟨I.toInCall.same,fun a o e _ _=>I.toInCall.keep a o e,fun a q=>.inl q⟩
  rcases p with ⟨e,ρ',st',k,X',S',g⟩ | ⟨v,mv,st',e,k,hv',S',g⟩
  ·rw [e];exact ⟨_,rfl,.none,st',k,rfl,S'.less,(g₁.trans g).go hfr⟩
  ·rw [e];exact ⟨_,rfl,mv,st',k,hv'.less,S'.less,(g₁.trans g).go hfr⟩
end
def Gl(x:String)(v:Value):Prop :=
 ∀ env:Env,env.globals=mainGlobals->env.builtins=builtinsNs->Looks (model prog w) h₀ (loadGlobal env (Str.ofString x)) v
noncomputable def P0:Pm:=⟨fun _=>False,fun _ q=>q.elim⟩
structure Vp(K:Frag):Prop where
 inK:K.In h₀
 lim:h₀.NoLimit
 sys:h₀.get? mainGlobals≠none
 fn:∀ f fn,table.lookup f=some fn->∃ o fd,h₀.get? (fa f)=some o/\o.data=.func fd/\jec fd fn/\h₀.CodeRec fd.code fd.qualname/\typeIn K (.ref (fa f))=some (.type "function")/\keepIn K (.ref (fa f))=true
 gfn:∀ f∈gnames,classes.contains f=false->(∃ fn,table.lookup f=some fn)/\Gl f (.ref (fa f))
 gcls:∀ c,classes.contains c=true->∃ C,cl c=some C/\Gl c (.ref C)
 cls:∀ c C,cl c=some C->(GT K C/\keepIn K (.ref C)=true)/\classes.contains (c++".__init__")=false/\(∃ fn,table.lookup (c++".__init__")=some fn)/\findIn K (.ref C) "__init__" = some (some (.ref (fa (c++".__init__"))))
 meth:∀ c C m,cl c=some C->instMeths.contains (c++"."++m)=true->classes.contains (c++"."++m)=false/\(∃ fn,table.lookup (c++"."++m)=some fn) /\
  findIn K (.ref C) (Str.ofString m)=some (some (.ref (fa (c++"."++m))))
 gstr:∀ x v,gstrs.lookup x=some v->∃ t,Gl x (.str (Str.ofString v) t)
 opt:∃ D kvs,Gl "OPERANDS" (.ref D)/\h₀.DictOf (strKind prog w) D kvs/\∀ x t,opTab.lookup x=some t->∃ a us,valueAt kvs (Str.ofString x)=some (.ref a)/\h₀.IsTuple a us/\Vs P0 h₀ (t.map .str) us.toList/\t.length<100
 bfn:∀ b∈["len","abs","sum","any","max"],Gl b (.builtin b)
 btp:∀ b∈["tuple","dict","list","range","enumerate","zip"],Gl b (.type b)
def Gi(f:String)(v:Value):Prop :=
 (classes.contains f=false/\v=.ref (fa f))\/(classes.contains f=true/\∃ C,cl f=some C/\v=.ref C)
def COk(C:jt)(A:Around):Prop :=
 ∀ (P:Pm),∀ f v args vals (st:St) (s:Shared) (K:MV->St->Prop),Gi f v->Sim P st s.heap->Vs P s.heap args vals->C f args st K ->
  codeAny (model prog w) A (.call v ⟨vals,[]⟩) (jfc P st s K) s
def SOk(C:jt)(A:Around):Prop :=
 ∀ (P:Pm),∀ (kd:Kd) b ss,J5 kd b ss=true->∀ env ρ (st:St) (s:Shared) (Kn:ja->St->Prop) (Kr:MV->St->Prop),EnvOk P kd env ρ s.heap->Sim P st s.heap->jG C b ρ st Kn Kr ->
  wpAny (model prog w) A (execs ss env) (PostS P kd env (Fm env) st s Kn Kr) NoE s
theorem Room.deeper{A:Around}{n:Nat}{env:Env}(R:Room A (n+1)):Room (A.deeper env) n :=
 ⟨R.handled,by have:=R.depth;show A.depth+1+_+_<_;w_up,by have:=R.units;show A.units+3+_+_<_;w_up⟩
theorem VA(C:Addr)(vals:List Value):(Code.builtin "type.__call__" ⟨.ref C::vals,[]⟩).weight≤2/\(Code.builtin "type.__call__" ⟨.ref C::vals,[]⟩).cUnits≤4:=by
 have h1:(Code.builtin "type.__call__" ⟨.ref C::vals,[]⟩).weight=1:=rfl
 have h2:(Code.builtin "type.__call__" ⟨.ref C::vals,[]⟩).cUnits=1:=rfl
 w_up
section
variable {P:Pm}{K:Frag}
theorem Sim.newInst{st:St}{h h':Heap}(S:Sim P st h){a d C:Nat}{c:String}(ea:h.get? a=none)(ed:h.get? d=none)(hne:d≠a)(hc:cl c=some C)
  (k:∀ b ob,h.get? b=some ob->h'.get? b=some ob) (ga:h'.get? a=some (instObj C d)) (gd:h'.get? d=some emptyDict):Sim P ((st.put d (.own a)).put a (.inst c d [])) h':=by
 have S':=S.keeps k
 have od:Ob h' d:=⟨_,gd,by simp [emptyDict]⟩
 have ld:(st.put d (.own a)).put a (.inst c d []) d=some (.own a):=(ye hne).trans Oy
 have old:∀ b ob,st b=some ob->(st.put d (.own a)).put a (.inst c d []) b=some ob:=fun b ob z =>
  (ye fun q=>no (S.st_none ea) (q▸z)).trans ((ye fun q=>no (S.st_none ed) (q▸z)).trans z)
 have inv:∀ b ob,(st.put d (.own a)).put a (.inst c d []) b=some ob->(b=a/\ob=.inst c d [])\/(b=d/\ob=.own a)\/st b=some ob:=fun b ob z =>
  yG z (fun e f=>.inl ⟨e,f⟩) fun _ z=>yG z (fun e f=>.inr (.inl ⟨e,f⟩)) fun _ z=>.inr (.inr z)
 refine ⟨fun b ob hb=>?_,fun b ob d' hb hd=>?_,fun b ob hb=>?_,S'.keep,fun b hb=>⟨(S'.dead b hb).1,?_⟩⟩
 ·rcases inv b ob hb with ⟨e,f⟩ | ⟨e,f⟩ | z
  ·rw [e,f];exact ⟨C,#[],0,hc,ga,gd,rfl⟩
  ·rw [e,f];exact od
  ·exact S'.rep b ob z
 ·rcases inv b ob hb with ⟨e,f⟩ | ⟨e,f⟩ | z
  ·rw [f] at hd;rw [← Option.some.inj hd,e];exact ld
  ·rw [f] at hd;cases hd
  ·exact old _ _ (S.link b ob d' z hd)
 ·rcases inv b ob hb with ⟨e,f⟩ | ⟨e,f⟩ | z
  ·rw [e];exact S.off ea
  ·rw [e];exact S.off ed
  ·exact S.below b ob z
 ·obtain ⟨⟨o,z⟩,l⟩:=S.dead b hb
  exact (ye fun q=>no ea (q▸z)).trans ((ye fun q=>no ed (q▸z)).trans l)
theorem Go.newInst{st st':St}{s s' s₂:Shared}{a d:Nat}{o:MObj}(ea:s.heap.get? a=none)(ed:s.heap.get? d=none)(k:∀ b ob,s.heap.get? b=some ob->s'.heap.get? b=some ob)(e:∃ h tk,s' = { s with heap:=h,toks:=tk })
  (G:Go ((st.put d (.own a)).put a o) s' st' s₂):Go st s st' s₂:=by
 have old:∀ b,Wn ((st.put d (.own a)).put a o) b->s.heap.get? b=none\/Wn st b:=fun b q=>(zo q).elim (fun e=>.inl (e▸ea)) fun q=>(zo q).elim (fun e=>.inl (e▸ed)) .inr
 refine ⟨?_,fun b ob z n=>G.keep b ob (k b ob z) fun q=>(old b q).elim (fun y=>no y z) n,fun b q=>(G.grow b q).elim (fun q=>(old b q).symm) fun q=>.inr (yi k q)⟩
 obtain ⟨h1,t1,z1⟩:=e
 obtain ⟨h2,t2,z2⟩:=G.same
 exact ⟨h2,t2,by rw [z2,z1]⟩
theorem Gl.run{A:Around}{E:Value->Shared->Prop}{s:Shared}{x:String}{v:Value}{Q:Value->Shared->Prop}{env:Env}(g:Gl x v)(k:∀ a o,h₀.get? a=some o->s.heap.get? a=some o)
  (h1:env.globals=mainGlobals) (h2:env.builtins=builtinsNs) (h:Q v s):wpAny (model prog w) A (loadGlobal env (Str.ofString x)) Q E s:=g env h1 h2 A Q E s k h
theorem Ou{A:Around}{n:Nat}{C:Addr}{vals:List Value}(R:Room A (n+1)):Room (A.under (.builtin "type.__call__" ⟨.ref C::vals,[]⟩)) n :=
 have wm:=VA C vals
 ⟨R.handled,by have:=R.depth;have:=wm.1;show A.depth+_+_+_<_;w_up,by have:=R.units;have:=wm.2;show A.units+_+_+_<_;w_up⟩
theorem jbl(F:Vp K)(hS:∀ n,(∀ A,Room A n->COk (qj table classes n) A)->∀ A,Room A n->SOk (qj table classes n) A)(n:Nat):∀ A,Room A n->COk (qj table classes n) A:=by
 induction n with
 |zero=>intro A R P f v args vals st s Q hc S hv h;exact h.elim
 |succ n ih =>
  have body:=hS n ih
  intro A R P f v args vals st s Q hc S hv h
  have kp:=S.keep
  rcases hc with ⟨hc,rfl⟩ | ⟨hc,C,hC,rfl⟩
  ·rw [QP hc] at h
   obtain ⟨fn,ht,hl,h⟩:=h
   obtain ⟨o,fd,ho,hd,FO,hcd,_⟩:=F.fn f fn ht
   refine jcu FO (kp _ _ ho) hd (F.lim.keeps kp) (hcd.keeps kp) (by have:=R.depth;w_up) S hv hl fun P' env s₁ b hb' X S₁=>?_
   obtain ⟨b',hb'',hchk⟩:=FO.body
   rw [hb'] at hb'';cases hb''
   exact body _ R.deeper P' _ _ _ hchk env _ st s₁ _ _ X S₁ h
  ·rw [QF hc] at h
   obtain ⟨⟨CO,_⟩,hni,_,hinit⟩:=F.cls f C hC
   obtain ⟨fnI,htI⟩:=(F.cls f C hC).2.2.1
   obtain ⟨oI,fdI,hoI,hdI,FOI,hcdI,htyI,_⟩:=F.fn _ _ htI
   obtain ⟨hp,g,d,t,os⟩:=s
   have X:K.In hp:=F.inK.keeps kp
   have fr:=j3 hp
   have hsz:(hp.push emptyDict).objs.size=hp.objs.size+1:=Heap.size_push ..
   have fr1:hp.get? (hp.objs.size+1)=none:=hsz▸zR hp emptyDict
   refine make_core (makes_of X CO.makes) (looks_findIn X hinit) (fun self=>bind_fn X self htyI) (.inl rfl) ?_
   have kk:=y6 hp emptyDict (instObj C hp.objs.size)
   have ga:((hp.push emptyDict).push (instObj C hp.objs.size)).get? (hp.objs.size+1)=some (instObj C hp.objs.size):=hsz▸j8 _ _ rfl
   have S':=S.newInst (h':=(hp.push emptyDict).push (instObj C hp.objs.size)) fr1 fr (Nat.ne_of_lt (Nat.lt_succ_self _)) hC kk ga (jf _ _ _ _ (j8 _ _ rfl))
   refine codeAny_mono (ih _ (Ou R) P (f++".__init__") (.ref (fa (f++".__init__"))) (.ref (hp.objs.size+1)::args) (.ref (hp.objs.size+1)::vals) _ _ _ (.inl ⟨hni,rfl⟩) S'
    ⟨_,_,rfl,rfl,hv.mono (.keep kk)⟩ (h _ _ (S.st_none fr1) (S.st_none fr) (Nat.succ_ne_self _))) fun r s' q=>?_
   obtain ⟨u,e,mv,st',⟨f,k⟩,hu,S'',G⟩:=q
   rw [f] at hu
   rw [e]
   exact ⟨hu,_,rfl,.ref (hp.objs.size+1),st',k,rfl,S'',G.newInst fr1 fr kk ⟨_,_,rfl⟩⟩
end
inductive PostB (P:Pm) (st:St) (s:Shared) (K:Bool->St->Prop) (b:Bool) (s':Shared):Prop
 | mk (st':St) (k:K b st') (S:Sim P st' s'.heap) (g:Go st s st' s')
inductive jdr (P:Pm) (st:St) (s:Shared) (K:List MV->St->Prop) (vs:List Value) (s':Shared):Prop
 | mk (mvs:List MV) (st':St) (k:K mvs st') (h:Vs P s'.heap mvs vs) (S:Sim P st' s'.heap) (g:Go st s st' s')
inductive jfK (P:Pm) (tg:Tg) (st:St) (s:Shared) (K:List MV->List (Nat×MObj)->St->Prop) (v:Value) (s':Shared):Prop
 | mk (xs:List MV) (src:List (Nat×MObj)) (st':St) (s₀:Shared) (k:K xs src st') (t:ji src st') (S:Sim P st' s₀.heap) (g:Go st s st' s₀) (e:∃ h tk,s' = { s₀ with heap:=h,toks:=tk }) (kp:∀ a o,s₀.heap.get? a=some o->s'.heap.get? a=some o) (I:Itb P s₀.heap s'.heap v xs src tg)
structure Ctx(K:Frag)(C:jt)(A:Around):Prop where
 F:Vp K
 hh:A.handled=none
 hu:A.units+100<cLine
 hC:COk C A
section
variable (C:jt) (A:Around)
def EvE(me:ME)(kd:Kd)(e:Expr):Prop:=∀ (P:Pm),∀ env ρ (st:St) (s:Shared) (K:MV->St->Prop),EnvOk P kd env ρ s.heap->Sim P st s.heap->wpE C me ρ st K ->
 wpAny (model prog w) A (eval e env) (Post P st s K) NoE s
def EOk(me:ME):Prop:=∀ (kd:Kd) e,jB kd me e=true->EvE C A me kd e
def EvT(me:ME)(kd:Kd)(e:Expr):Prop:=∀ (P:Pm),∀ env ρ (st:St) (s:Shared) (K':MV->St->Prop) (K:Bool->St->Prop),(∀ v st',K' v st'->∃ b,v=.bool b/\K b st')->EnvOk P kd env ρ s.heap->Sim P st s.heap->wpE C me ρ st K' ->
 wpAny (model prog w) A (isTrue e env (eval e env)) (PostB P st s K) NoE s
def TOk(me:ME):Prop:=∀ (kd:Kd) e,jB kd me e=true->EvT C A me kd e
def jhm(mes:List ME)(kd:Kd)(es:List Expr):Prop:=∀ (P:Pm),∀ env ρ (st:St) (s:Shared) (K:List MV->St->Prop) pos,EnvOk P kd env ρ s.heap->Sim P st s.heap->J0 C mes ρ st K ->
 wpAny (model prog w) A (spliced (backTo pos (starEach es env))) (jdr P st s K) NoE s
def Xk(mes:List ME):Prop:=∀ (kd:Kd) es,Jx kd mes es=true->jhm C A mes kd es
noncomputable def VI:MI->Tg
 |.of _=>.seq
 |.range _=>.range
 |.enum _=>.enum
 |.zip ..=>.zip
def EvI(mi:MI)(kd:Kd)(e:Expr):Prop:=∀ (P:Pm),∀ env ρ (st:St) (s:Shared) (K:List MV->List (Nat×MObj)->St->Prop),EnvOk P kd env ρ s.heap->Sim P st s.heap->wpI C mi ρ st K ->
 wpAny (model prog w) A (eval e env) (jfK P (VI mi) st s K) NoE s
def IOk(mi:MI):Prop:=∀ (kd:Kd) e,vj kd mi e=true->EvI C A mi kd e
end
section
variable {P:Pm}{A:Around}{K:Frag}{C:jt}
variable {s s₁:Shared}{st st₁:St}
theorem qJ{t:Sem Bool}{Q:Bool->St->Prop}(g:Go st s st₁ s₁)(h:wpAny (model prog w) A t (PostB P st₁ s₁ Q) NoE s₁) :
  wpAny (model prog w) A t (PostB P st s Q) NoE s₁:=wpAny_mono h (fun _ _ ⟨st',k,S,g'⟩=>⟨st',k,S,g.trans g'⟩) fun _ _ e=>e
theorem jz{t:Sem Value}{f:Value->Shared->Prop}{Q:MV->St->Prop}(h:wpAny (model prog w) A t (Post P st s Q) NoE s)
  (k:∀ mv v st₁ s₁,Q mv st₁->V P s₁.heap mv v->Sim P st₁ s₁.heap->Go st s st₁ s₁->f v s₁):wpAny (model prog w) A t f NoE s :=
 wpAny_mono h (fun v s₁ ⟨mv,st₁,q,hv,S,g⟩=>k mv v st₁ s₁ q hv S g) fun _ _ e=>e
theorem YR{t:Sem (List Value)}{f:List Value->Shared->Prop}{Q:List MV->St->Prop}(h:wpAny (model prog w) A t (jdr P st s Q) NoE s)
  (k:∀ mvs vs st₁ s₁,Q mvs st₁->Vs P s₁.heap mvs vs->Sim P st₁ s₁.heap->Go st s st₁ s₁->f vs s₁):wpAny (model prog w) A t f NoE s :=
 wpAny_mono h (fun v s₁ ⟨mv,st₁,q,hv,S,g⟩=>k mv v st₁ s₁ q hv S g) fun _ _ e=>e
theorem yH{t:Sem Bool}{f:Bool->Shared->Prop}{Q:Bool->St->Prop}(h:wpAny (model prog w) A t (PostB P st s Q) NoE s)
  (k:∀ b st₁ s₁,Q b st₁->Sim P st₁ s₁.heap->Go st s st₁ s₁->f b s₁):wpAny (model prog w) A t f NoE s :=
 wpAny_mono h (fun v s₁ ⟨st₁,q,S,g⟩=>k v st₁ s₁ q S g) fun _ _ e=>e
theorem PostB.of{Q:Bool->St->Prop}{b:Bool}(S:Sim P st s.heap)(k:Q b st):PostB P st s Q b s:=⟨st,k,S,Go.refl⟩
theorem jo{me:ME}(h:EOk C A me)(he:∀ kd e,jB kd me e=true->∀ env whole,isTrue e env whole=(do let v ← whole;standAt e.pos;holding [v] (truthy v))):TOk C A me:=by
 intro kd e hc
 intro P env ρ st s Q' Q hQ X S hw
 refine wpAny_isTrue_value (jz (h kd e hc P env ρ st s _ X S hw) fun mv v st₁ s₁ q hv S₁ g=>?_) (he kd e hc env _)
 obtain ⟨b,rfl,k⟩:=hQ _ _ q
 obtain rfl:=hv
 exact wpAny_truthy_bool ⟨st₁,k,S₁,g⟩
theorem uB:EOk C A .none:=by
 intro kd e hc
 apply JM hc;intro a _ _ z
 apply JA z
 intro P env ρ st s Q X S hw
 exact wpAny_Constant_none (.of S hw (by simp only [V]))
theorem Ua{b:Bool}:EOk C A (.bool b):=by
 intro kd e hc
 apply JM hc;intro a _ _ z
 apply JA z
 intro P env ρ st s Q X S hw
 exact wpAny_Constant_bool (.of S hw (by simp only [V]))
theorem OT{i:Int}:EOk C A (.int i):=by
 intro kd e hc
 apply JM hc;intro a _ _ z
 apply JA z
 intro P env ρ st s Q X S hw
 exact wpAny_Constant_int (.tok S hw ⟨_,rfl⟩)
theorem jan{x:String}:EOk C A (.str x):=by
 intro kd e hc
 apply JM hc;intro a _ _ z
 apply JA z
 intro P env ρ st s Q X S hw
 exact wpAny_Constant_str (.tok S hw ⟨_,rfl⟩)
theorem On{x:String}:EOk C A (.var x):=by
 intro kd e hc
 apply Yt hc;intro n _ z
 clear hc
 simp only [Bool.and_eq_true,beq_iff_eq,bne_iff_ne,Bool.not_eq_true'] at z
 obtain ⟨rfl,h0,hk,hd,hcd⟩:=z
 intro P env ρ st s Q X S hw
 obtain ⟨v,hl,k⟩:=hw
 exact wpAny_Name (jav X h0 hk hcd hl fun u hu=>.of S k hu) hd
theorem Yc{P:Pm}{kd:Kd}{env:Env}{ρ:ja}{x:String}{v:Value}{pos:Pos}{Q:Value->Shared->Prop}{E:Value->Shared->Prop}(g:Gl x v)(X:EnvOk P kd env ρ s.heap)(S:Sim P st s.heap)(hk:kd (Str.ofString x)=some .globalImplicit)
  (hd:(Str.ofString x==("__debug__" : Str))=false) (h:Q v s):wpAny (model prog w) A (eval (.Name (Str.ofString x) pos) env) Q E s:=by
 refine wpAny_Name ?_ hd
 rw [loadName_read X.fnk ((X.kind _).trans hk)]
 exact g.run S.keep X.glob X.built h
theorem ur(c:Ctx K C A){x v:String}:EOk C A (.gstr x v):=by
 intro kd e hc
 apply Yt hc;intro n _ z
 clear hc
 refine aE2 z fun z hg=>?_
 obtain ⟨rfl,hk,hd⟩:=Xh z
 have hk:=beq_iff_eq.mp hk
 have hg:=beq_iff_eq.mp hg
 intro P env ρ st s Q X S hw
 obtain ⟨t,g⟩:=c.F.gstr x v hg
 exact Yc g X S hk hd (.of S hw ⟨t,rfl⟩)
theorem uz(c:Ctx K C A){op:BOp}{l r:ME}(hl:EOk C A l)(hr:EOk C A r):EOk C A (.bin op l r):=by
 intro kd e hc
 apply jeF hc;intro x o y _ z
 refine aE3 z fun ho h1 h2=>?_
 apply JA (a:=o) ho
 intro P env ρ st s Q X S hw
 refine wpAny_BinOp (jz (hl kd _ h1 P env ρ st s _ X S hw) fun a va st₁ s₁ q hva S₁ g₁=>?_)
 refine jz (hr kd _ h2 P env ρ st₁ s₁ _ (X.go S g₁) S₁ q) fun b vb st₂ s₂ q hvb S₂ g₂=>?_
 exact xj (g₁.trans g₂) (jdS S₂ c.hh (V.mono (S₁.mono g₂) _ _ hva) hvb q)
theorem jaq{x:ME}(hx:EOk C A x):EOk C A (.neg x):=by
 intro kd e hc
 apply iUn hc;intro o x _ z
 refine aE2 z fun ho z=>?_
 apply JA (a:=o) ho
 intro P env ρ st s Q X S hw
 refine wpAny_UnaryOp (jz (hx kd _ z P env ρ st s _ X S hw) fun a va st₁ s₁ q hva S₁ g₁=>?_)
 obtain ⟨i,rfl,k⟩:=q
 obtain ⟨t,rfl⟩:=hva
 exact xj g₁ (PyProof.Rows.neg_int (.tok S₁ k ⟨_,rfl⟩))
theorem jen{x:ME}(hx:EOk C A x):EOk C A (.not x):=by
 intro kd e hc
 apply iUn hc;intro o x _ z
 refine aE2 z fun ho z=>?_
 apply JA (a:=o) ho
 intro P env ρ st s Q X S hw
 refine wpAny_UnaryOp (jz (hx kd _ z P env ρ st s _ X S hw) fun a va st₁ s₁ q hva S₁ g₁=>?_)
 obtain ⟨b,rfl,k⟩:=q
 obtain rfl:=hva
 exact xj g₁ (not_value (wpAny_truthy_bool (.of S₁ k (by simp only [V]))))
theorem jbX{x:ME}(hx:TOk C A x):TOk C A (.not x):=by
 intro kd e hc
 apply iUn hc;intro o x _ z
 refine aE2 z fun ho z=>?_
 apply JA (a:=o) ho
 intro P env ρ st s Q' Q hQ X S hw
 refine wpAny_isTrue_Not (yH (hx kd _ z P env ρ st s _ (fun b st'=>Q (!b) st') ?_ X S hw) fun b st' s' k S g=>⟨st',k,S,g⟩)
 rintro v st' ⟨b,rfl,k⟩
 obtain ⟨b',e,k'⟩:=hQ _ _ k
 cases e
 exact ⟨b,rfl,k'⟩
end
section
variable {P:Pm}{A:Around}{K:Frag}{C:jt}
variable {s s₁:Shared}{st st₁:St}
theorem Ge{a b c:Expr}{r:List Expr}{pos:Pos}{env:Env}{Q:Value->Shared->Prop}{E:Value->Shared->Prop}
  (h:wpAny (model prog w) A (eval a env) (fun v s₁=>wpAny (model prog w) A (truthy v) (fun t s₂=>if t then wpAny (model prog w) A (eval (.BoolOp .And (b::c::r) pos) env) Q E s₂ else Q v s₂) E s₁) E s) :
  wpAny (model prog w) A (eval (.BoolOp .And (a::b::c::r) pos) env) Q E s:=by
 show wpAny (model prog w) A (do
  let v ← eval a env
  standAt pos
  let t ← holding [v] (truthy v)
  match BoolOp.And,t with
  |.And,false | .Or,true=>pure v
  |_,_=>eval (.BoolOp .And (b::c::r) pos) env) Q E s
 refine wpAny_bind (wpAny_mono h (fun v s₁ h₁=>wpAny_bind (wpAny_standAt (wpAny_bind (wpAny_holding (wpAny_mono h₁ (fun t s₂ h₂=>?_) fun _ _ x=>x))))) fun _ _ x=>x)
 cases t with
 |false=>exact wpAny_pure h₂
 |true=>exact h₂
theorem Uk{a b c:Expr}{r:List Expr}{pos:Pos}{env:Env}{Q:Value->Shared->Prop}{E:Value->Shared->Prop}
  (h:wpAny (model prog w) A (eval a env) (fun v s₁=>wpAny (model prog w) A (truthy v) (fun t s₂=>if t then Q v s₂ else wpAny (model prog w) A (eval (.BoolOp .Or (b::c::r) pos) env) Q E s₂) E s₁) E s) :
  wpAny (model prog w) A (eval (.BoolOp .Or (a::b::c::r) pos) env) Q E s:=by
 show wpAny (model prog w) A (do
  let v ← eval a env
  standAt pos
  let t ← holding [v] (truthy v)
  match BoolOp.Or,t with
  |.And,false | .Or,true=>pure v
  |_,_=>eval (.BoolOp .Or (b::c::r) pos) env) Q E s
 refine wpAny_bind (wpAny_mono h (fun v s₁ h₁=>wpAny_bind (wpAny_standAt (wpAny_bind (wpAny_holding (wpAny_mono h₁ (fun t s₂ h₂=>?_) fun _ _ x=>x))))) fun _ _ x=>x)
 cases t with
 |false=>exact h₂
 |true=>exact wpAny_pure h₂
inductive oR (t:Bool) (K:MV->St->Prop) (R:Prop) (st:St):MV->Prop
 | go (q:R):oR t K R st (.bool t)
 | stop (q:K (.bool !t) st):oR t K R st (.bool !t)
theorem Vq{v:MV}{K:MV->St->Prop}{R:Prop}(h:∃ x,v=.bool x/\ifb x R (K (.bool false) st)):oR true K R st v:=by
 obtain ⟨x,e,q⟩:=h
 rw [e]
 cases x
 ·exact .stop q
 ·exact .go q
theorem uN{v:MV}{K:MV->St->Prop}{R:Prop}(h:∃ x,v=.bool x/\ifb x (K (.bool true) st) R):oR false K R st v:=by
 obtain ⟨x,e,q⟩:=h
 rw [e]
 cases x
 ·exact .go q
 ·exact .stop q
theorem z8{l r:ME}{kd:Kd}{env:Env}{ρ:ja}{x y:Expr}{t:Bool}{Q K₀:MV->St->Prop}{f:Bool->Value->Shared->Prop}(hl:EvE C A l kd x)(hr:EvE C A r kd y)(X:EnvOk P kd env ρ s.heap)(S:Sim P st s.heap)(hw:wpE C l ρ st K₀)(imp:∀ v st₁,K₀ v st₁->oR t Q (wpE C r ρ st₁ Q) st₁ v)
  (k1:∀ s₁,wpAny (model prog w) A (eval y env) (Post P st s Q) NoE s₁->f t (.bool t) s₁) (k2:∀ v s₁,Post P st s Q v s₁->f (!t) v s₁):wpAny (model prog w) A (eval x env) (fun v s₁=>wpAny (model prog w) A (truthy v) (fun t'=>f t' v) NoE s₁) NoE s:=by
 refine jz (hl P env ρ st s _ X S hw) fun mv v st₁ s₁ q hv S₁ g=>?_
 have q2:=imp _ _ q
 clear q
 revert hv
 induction q2 with
 |go q=>intro hv;apply vIs hv;exact wpAny_truthy_bool (k1 s₁ (xj g (hr P env ρ st₁ s₁ _ (X.go S g) S₁ q)))
 |stop q=>intro hv;apply vIs hv;exact wpAny_truthy_bool (k2 _ s₁ ⟨_,st₁,q,rfl,S₁,g⟩)
theorem jcA{l r:ME}(hl:EOk C A l)(hr:EOk C A r):EOk C A (.and l r):=by
 intro kd e hc
 apply Vz hc;intro o vs _ z
 refine aE2 z fun ho z=>?_
 apply JA (a:=o) ho
 intro P env ρ st s Q X S hw
 apply uT (l:=vs) z
 ·exact fun _ _ hc=>wpAny_And2 (z8 (t:=true) (hl kd _ hc.1) (hr kd _ hc.2) X S hw (fun _ _=>Vq) (fun _ h=>h) fun _ _ h=>h)
 ·exact fun _ _ _ _ hc=>Ge (z8 (t:=true) (hl kd _ hc.1) (hr kd _ hc.2) X S hw (fun _ _=>Vq) (fun _ h=>h) fun _ _ h=>h)
theorem jdD{l r:ME}(hl:EOk C A l)(hr:EOk C A r):EOk C A (.or l r):=by
 intro kd e hc
 apply Vz hc;intro o vs _ z
 refine aE2 z fun ho z=>?_
 apply JA (a:=o) ho
 intro P env ρ st s Q X S hw
 apply uT (l:=vs) z
 ·exact fun _ _ hc=>wpAny_Or2 (z8 (t:=false) (hl kd _ hc.1) (hr kd _ hc.2) X S hw (fun _ _=>uN) (fun _ h=>h) fun _ _ h=>h)
 ·exact fun _ _ _ _ hc=>Uk (z8 (t:=false) (hl kd _ hc.1) (hr kd _ hc.2) X S hw (fun _ _=>uN) (fun _ h=>h) fun _ _ h=>h)
theorem xM{b:Bool}{G:Bool->Prop}(h:∃ b',MV.bool b=.bool b'/\G b'):G b:=by
 obtain ⟨b',e,k⟩:=h;cases e;exact k
theorem xU{op:BoolOp}{vs:List Expr}{pos:Pos}{env:Env}{wh:Sem Value}{Q:Bool->Shared->Prop}{E:Value->Shared->Prop}(h:wpAny (model prog w) A (isTrue (.BoolOp op vs pos) env wh) Q E s) :
  wpAny (model prog w) A (allTrue op vs env) Q E s:=by rwa [arm_isTrue_BoolOp] at h
theorem jcO{l r:ME}(hl:TOk C A l)(hr:TOk C A r):TOk C A (.and l r):=by
 intro kd e hc
 intro P env ρ st s Q' Q hQ X S hw
 have imp:∀ (v:MV) (st₁:St),(∃ x,v=.bool x/\(ifb x (wpE C r ρ st₁ Q') (Q' (.bool false) st₁)))->∃ b,v=.bool b/\(ifb b (wpE C r ρ st₁ Q') (Q false st₁)):=by
  intro v st₁ ⟨x,e,q⟩
  refine ⟨x,e,?_⟩
  cases x with
  |true=>exact q
  |false=>exact xM (G:=fun b=>Q b st₁) (hQ _ _ q)
 apply Vz hc;intro o vs _ z
 refine aE2 z fun ho z=>?_
 apply JA (a:=o) ho
 apply uT (l:=vs) z
 ·intro _ _ hc
  refine wpAny_isTrue_BoolOp (wpAny_allTrue_And_cons (yH (hl kd _ hc.1 P env ρ st s _ (fun b st₁=>ifb b (wpE C r ρ st₁ Q') (Q false st₁)) imp X S hw) fun b st₁ s₁ q S₁ g=>?_))
  cases b with
  |false=>exact ⟨st₁,q,S₁,g⟩
  |true =>
   refine qJ g ?_
   refine wpAny_allTrue_And_cons (yH (hr kd _ hc.2 P env ρ st₁ s₁ _ Q hQ (X.go S g) S₁ q) fun b st₂ s₂ q S₂ g₂=>?_)
   cases b with
   |false=>exact ⟨st₂,q,S₂,g₂⟩
   |true=>exact wpAny_allTrue_And_nil ⟨st₂,q,S₂,g₂⟩
 ·intro _ _ _ _ hc
  refine wpAny_isTrue_BoolOp (wpAny_allTrue_And_cons (yH (hl kd _ hc.1 P env ρ st s _ (fun b st₁=>ifb b (wpE C r ρ st₁ Q') (Q false st₁)) imp X S hw) fun b st₁ s₁ q S₁ g=>?_))
  cases b with
  |false=>exact ⟨st₁,q,S₁,g⟩
  |true=>exact qJ g (xU (hr kd _ hc.2 P env ρ st₁ s₁ _ Q hQ (X.go S g) S₁ q))
theorem jdH{l r:ME}(hl:TOk C A l)(hr:TOk C A r):TOk C A (.or l r):=by
 intro kd e hc
 intro P env ρ st s Q' Q hQ X S hw
 have imp:∀ (v:MV) (st₁:St),(∃ x,v=.bool x/\(ifb x (Q' (.bool true) st₁) (wpE C r ρ st₁ Q')))->∃ b,v=.bool b/\(ifb b (Q true st₁) (wpE C r ρ st₁ Q')):=by
  intro v st₁ ⟨x,e,q⟩
  refine ⟨x,e,?_⟩
  cases x with
  |false=>exact q
  |true=>exact xM (G:=fun b=>Q b st₁) (hQ _ _ q)
 apply Vz hc;intro o vs _ z
 refine aE2 z fun ho z=>?_
 apply JA (a:=o) ho
 apply uT (l:=vs) z
 ·intro _ _ hc
  refine wpAny_isTrue_BoolOp (wpAny_allTrue_Or_cons (yH (hl kd _ hc.1 P env ρ st s _ (fun b st₁=>ifb b (Q true st₁) (wpE C r ρ st₁ Q')) imp X S hw) fun b st₁ s₁ q S₁ g=>?_))
  cases b with
  |true=>exact ⟨st₁,q,S₁,g⟩
  |false =>
   refine qJ g ?_
   refine wpAny_allTrue_Or_cons (yH (hr kd _ hc.2 P env ρ st₁ s₁ _ Q hQ (X.go S g) S₁ q) fun b st₂ s₂ q S₂ g₂=>?_)
   cases b with
   |true=>exact ⟨st₂,q,S₂,g₂⟩
   |false=>exact wpAny_allTrue_Or_nil ⟨st₂,q,S₂,g₂⟩
 ·intro _ _ _ _ hc
  refine wpAny_isTrue_BoolOp (wpAny_allTrue_Or_cons (yH (hl kd _ hc.1 P env ρ st s _ (fun b st₁=>ifb b (Q true st₁) (wpE C r ρ st₁ Q')) imp X S hw) fun b st₁ s₁ q S₁ g=>?_))
  cases b with
  |true=>exact ⟨st₁,q,S₁,g⟩
  |false=>exact qJ g (xU (hr kd _ hc.2 P env ρ st₁ s₁ _ Q hQ (X.go S g) S₁ q))
theorem jcG{t b o:ME}(ht:TOk C A t)(hb':EOk C A b)(ho:EOk C A o):EOk C A (.ite t b o):=by
 intro kd e hc
 apply iIf hc;intro x y z' _ z
 refine aE3 z fun h1 h2 h3=>?_
 intro P env ρ st s Q X S hw
 refine wpAny_IfExp (yH (ht kd _ h1 P env ρ st s _ (fun x st₁=>ifb x (wpE C b ρ st₁ Q) (wpE C o ρ st₁ Q)) (fun _ _ q=>q) X S hw) fun x st₁ s₁ q S₁ g=>?_)
 cases x with
 |true=>exact xj g (hb' kd _ h2 P env ρ st₁ s₁ _ (X.go S g) S₁ q)
 |false=>exact xj g (ho kd _ h3 P env ρ st₁ s₁ _ (X.go S g) S₁ q)
theorem jcr{t b o:ME}(ht:TOk C A t)(hb':TOk C A b)(ho:TOk C A o):TOk C A (.ite t b o):=by
 intro kd e hc
 apply iIf hc;intro x y z' _ z
 refine aE3 z fun h1 h2 h3=>?_
 intro P env ρ st s Q' Q hQ X S hw
 refine wpAny_bind (yH (ht kd _ h1 P env ρ st s _ (fun x st₁=>ifb x (wpE C b ρ st₁ Q') (wpE C o ρ st₁ Q')) (fun _ _ q=>q) X S hw) fun x st₁ s₁ q S₁ g=>?_)
 cases x with
 |true=>exact qJ g (hb' kd _ h2 P env ρ st₁ s₁ _ Q hQ (X.go S g) S₁ q)
 |false=>exact qJ g (ho kd _ h3 P env ρ st₁ s₁ _ Q hQ (X.go S g) S₁ q)
theorem ZR{mv:MV}{v:Value}{h:Heap}(hv:V P h mv v):(v==Value.none)=isNone mv:=by
 cases mv with
 |none=>apply vIs hv;rfl
 |bool b=>apply vIs hv;rfl
 |int i=>apply yW hv;intro t;rfl
 |str i=>apply jab hv;intro t;rfl
 |tup xs=>obtain ⟨a,ys,e,_⟩:=hv;apply vIs e;rfl
 |ref a=>apply vIs hv;rfl
 |clist xs=>obtain ⟨a,ys,e,_⟩:=hv;apply vIs e;rfl
theorem uK(mv:MV):V6 mv = !isNone mv:=by cases mv<;>rfl
theorem vv{x:ME}{kd:Kd}{e:Expr}{o:CmpOp}{G:Expr->Prop}(h:U6 e (fun x' o' ys _=>o'==[o]&&(one (fun r=>YG r fun c _ _=>c==.none) ys&&jB kd x x'))=true)
  (k:∀ y a b p,jB kd x y=true->G (.Compare y [o] [.Constant .none a b] p)):G e:=by
 apply U4 h;intro y o' ys _ z
 refine aE3 z fun ho h1 z=>?_
 apply JA (a:=o') ho
 apply ZT (l:=ys) h1;intro y h1
 apply JM (e:=y) h1;intro c _ _ h1
 apply JA (a:=c) h1
 exact k _ _ _ _ z
theorem jbU{x:ME}(hx:EOk C A x):EOk C A (.isn x):=by
 intro kd e hc
 apply vv hc;intro y a b p z P env ρ st s Q X S hw
 exact wpAny_Compare1 (jz (hx kd _ z P env ρ st s _ X S hw) fun mv v st₁ s₁ q hv S₁ g=>wpAny_Constant_none (is_none ⟨_,st₁,q,congrArg Value.bool (ZR hv),S₁,g⟩)) (by rfl)
theorem jaE{x:ME}(hx:EOk C A x):EOk C A (.isnn x):=by
 intro kd e hc
 apply vv hc;intro y a b p z P env ρ st s Q X S hw
 exact wpAny_Compare1 (jz (hx kd _ z P env ρ st s _ X S hw) fun mv v st₁ s₁ q hv S₁ g=>wpAny_Constant_none (isNot_none ⟨_,st₁,q,congrArg Value.bool ((congrArg _ (ZR hv)).trans (uK mv).symm),S₁,g⟩)) (by rfl)
theorem jcc{x:ME}(hx:EOk C A x):TOk C A (.isn x):=by
 intro kd e hc
 apply vv hc;intro y a b p z P env ρ st s Q' Q hQ X S hw
 exact wpAny_isTrue_Compare1 (jz (hx kd _ z P env ρ st s _ X S hw) fun mv v st₁ s₁ q hv S₁ g=>wpAny_Constant_none (is_none (wpAny_truthy_bool ⟨st₁,(ZR hv).symm▸xM (hQ _ _ q),S₁,g⟩))) (by rfl)
theorem oz{x:ME}(hx:EOk C A x):TOk C A (.isnn x):=by
 intro kd e hc
 apply vv hc;intro y a b p z P env ρ st s Q' Q hQ X S hw
 exact wpAny_isTrue_Compare1 (jz (hx kd _ z P env ρ st s _ X S hw) fun mv v st₁ s₁ q hv S₁ g=>wpAny_Constant_none (isNot_none (wpAny_truthy_bool ⟨st₁,((congrArg _ (ZR hv)).trans (uK mv).symm:(!(v==Value.none))=V6 mv)▸xM (hQ _ _ q),S₁,g⟩))) (by rfl)
end
section
variable {P:Pm}{A:Around}{K:Frag}{C:jt}
variable {s s₁:Shared}{st st₁:St}
theorem Ctx.sys(c:Ctx K C A):SysOk P:=by exact c.F.sys
theorem xR{op:CmpOp}{e:Expr}(h:qL e=false):behindInMarks op e=false:=by
 have p:false=false:=rfl
 cases e<;>first | exact p | cases h
inductive jfr (P:Pm) (st:St) (s:Shared) (Q:MV->Bool->St->Prop) (vb v:Value) (s':Shared):Prop
 | mk (t:Bool) (b:MV) (st':St) (e:v=.bool t) (k:Q b t st') (h:V P s'.heap b vb) (S:Sim P st' s'.heap) (g:Go st s st' s')
theorem Yu(c:Ctx K C A){op:COp}{r:ME}{kd:Kd}{env:Env}{ρ:ja}{y:Expr}{a:MV}{va:Value}{Q:MV->Bool->St->Prop}{f:Value->Value->Shared->Prop}(hr:EvE C A r kd y)(X:EnvOk P kd env ρ s.heap)(S:Sim P st s.heap)(ha:V P s.heap a va)
  (q:wpE C r ρ st fun b st₂=>yo op a b st₂ fun t=>Q b t st₂) (k:∀ vb v s',jfr P st s Q vb v s'->f vb v s'):wpAny (model prog w) A (eval y env) (fun vb=>wpAny (model prog w) A (compareOp (pyC op) va vb) (f vb) NoE) NoE s:=by
 refine jz (hr P env ρ st s _ X S q) fun b vb st₂ s₂ q hb S₂ g=>?_
 refine wpAny_mono (jew S₂ c.sys (Nat.lt_of_le_of_lt (Nat.add_le_add_left (by decide) _) c.hu) (ha.mono (S.mono g)) hb q) (fun v s' p=>?_) fun _ _ e=>e
 obtain ⟨t,tk,e,k',hs⟩:=p
 rw [hs]
 exact k _ _ _ ⟨t,b,st₂,e,k',hb,S₂,g.trans (.toks tk)⟩
theorem jbD(c:Ctx K C A){op:COp}{l r:ME}(hl:EOk C A l)(hr:EOk C A r):EOk C A (.cmp op l r):=by
 intro kd e hc
 apply U4 hc;intro x o ys _ z
 refine aE3 z fun ho h1 z=>?_
 apply JA (a:=o) ho
 apply ZT (l:=ys) z;intro y z
 refine aE2 z fun h2 h3=>?_
 intro P env ρ st s Q X S hw
 refine wpAny_Compare1 (jz (hl kd _ h1 P env ρ st s _ X S hw) fun a va st₁ s₁ q hva S₁ g₁=>?_) (xR (Zn h3))
 refine Yu c (hr kd _ h2) (X.go S g₁) S₁ hva q fun vb v s' p=>?_
 obtain ⟨t,b,st',e,k,_,S',g⟩:=p
 exact ⟨_,st',k,e,S',g₁.trans g⟩
theorem jbK(c:Ctx K C A){op:COp}{l r:ME}(hl:EOk C A l)(hr:EOk C A r):TOk C A (.cmp op l r):=by
 intro kd e hc
 apply U4 hc;intro x o ys _ z
 refine aE3 z fun ho h1 z=>?_
 apply JA (a:=o) ho
 apply ZT (l:=ys) z;intro y z
 refine aE2 z fun h2 h3=>?_
 intro P env ρ st s Q' Q hQ X S hw
 refine wpAny_isTrue_Compare1 (jz (hl kd _ h1 P env ρ st s _ X S hw) fun a va st₁ s₁ q hva S₁ g₁=>?_) (xR (Zn h3))
 refine Yu c (hr kd _ h2) (X.go S g₁) S₁ hva q fun vb v s' p=>?_
 obtain ⟨t,b,st',e,k,_,S',g⟩:=p
 apply vIs e
 exact wpAny_truthy_bool ⟨st',xM (G:=fun b=>Q b st') (hQ _ _ k),S',g₁.trans g⟩
theorem O6(c:Ctx K C A){o₁ o₂:COp}{x y z:ME}(hx:EOk C A x)(hy:EOk C A y)(hz:EOk C A z):EOk C A (.cmp2 o₁ o₂ x y z):=by
 intro kd e hc
 apply U4 hc;intro x o ys _ v
 refine aE3 v fun ho h1 v=>?_
 apply JA (a:=o) ho
 apply jeo (l:=ys) v;intro y z v
 refine aE4 v fun h2 h3 h4 h5=>?_
 intro P env ρ st s Q X S hw
 refine Compare_chain (jz (hx kd _ h1 P env ρ st s _ X S hw) fun a va st₁ s₁ q hva S₁ g₁=>?_) (xR (Zn h5))
 refine chain_link (Yu c (hy kd _ h2) (X.go S g₁) S₁ hva q fun vb v s₂ p=>?_)
 obtain ⟨t,b,st₂,e,k,hb,S₂,g⟩:=p
 apply vIs e
 refine wpAny_truthy_bool ?_
 have g12:=g₁.trans g
 cases t with
 |false=>exact ⟨_,st₂,k,rfl,S₂,g12⟩
 |true =>
  refine chain_last (Yu c (hz kd _ h3) (X.go S g12) S₂ hb k fun vb v s' p=>?_)
  obtain ⟨t,b,st',e,k,_,S',g⟩:=p
  exact ⟨_,st',k,e,S',g12.trans g⟩
theorem jag(c:Ctx K C A){o₁ o₂:COp}{x y z:ME}(hx:EOk C A x)(hy:EOk C A y)(hz:EOk C A z):TOk C A (.cmp2 o₁ o₂ x y z):=by
 intro kd e hc
 apply U4 hc;intro x o ys _ v
 refine aE3 v fun ho h1 v=>?_
 apply JA (a:=o) ho
 apply jeo (l:=ys) v;intro y z v
 refine aE4 v fun h2 h3 h4 h5=>?_
 intro P env ρ st s Q' Q hQ X S hw
 have fin:∀ {t st' s'},Q' (.bool t) st'->Sim P st' s'.heap->Go st s st' s'->PostB P st s Q t s':=fun k S' g=>⟨_,xM (G:=fun b=>Q b _) (hQ _ _ k),S',g⟩
 refine isTrue_chain (jz (hx kd _ h1 P env ρ st s _ X S hw) fun a va st₁ s₁ q hva S₁ g₁=>?_) (xR (Zn h5))
 refine test_link (Yu c (hy kd _ h2) (X.go S g₁) S₁ hva q fun vb v s₂ p=>?_)
 obtain ⟨t,b,st₂,e,k,hb,S₂,g⟩:=p
 apply vIs e
 refine wpAny_truthy_bool ?_
 have g12:=g₁.trans g
 cases t with
 |false=>exact fin k S₂ g12
 |true =>
  refine test_last (Yu c (hz kd _ h3) (X.go S g12) S₂ hb k fun vb v s' p=>?_)
  obtain ⟨t,b,st',e,k,_,S',g⟩:=p
  apply vIs e
  exact wpAny_truthy_bool (fin k S' (g12.trans g))
theorem GS{o:Expr}{a:Str}{env:Env}(h:gR o=true):attributeBase o a env (eval o env)=eval o env:=by
 have p:eval o env=eval o env:=rfl
 cases o<;>first | exact p | cases h
theorem QO(c:Ctx K C A){o:ME}{a:String}(ho:EOk C A o):EOk C A (.attr o a):=by
 intro kd e hc
 apply vf hc;intro x b _ z
 refine aE4 z fun hb' h1 h2 h3=>?_
 apply JA (a:=b) hb'
 intro P env ρ st s Q X S hw
 rw [arm_eval_Attribute,GS h3]
 refine wpAny_bind (jz (ho kd _ h2 P env ρ st s _ X S hw) fun ov vo st₁ s₁ q hvo S₁ g₁=>wpAny_bind (wpAny_standAt (wpAny_bind (wpAny_holding ?_))))
 have XK:K.In s₁.heap:=c.F.inK.keeps (S₁.keep)
 refine wpAny_mono (jcJ S₁ XK hvo (fun c' C' h=>(c.F.cls c' C' h).1.1) (List.contains_iff_mem.mp h1) q) (fun v s' p=>?_) fun _ _ e=>e
 obtain ⟨mv,tk,hv,k,hs⟩:=p
 rw [hs]
 exact wpAny_bind (wpAny_letTemporaryGo (wpAny_pure (.go g₁ (.tok S₁ k hv))))
theorem uZ(c:Ctx K C A){o i:ME}(ho:EOk C A o)(hi:EOk C A i):EOk C A (.sub o i):=by
 intro kd e hc
 apply zx hc;intro x y _ z
 refine aE3 z fun h1 h2 h3=>?_
 intro P env ρ st s Q X S hw
 refine Subscript_ (jz (ho kd _ h1 P env ρ st s _ X S hw) fun a va st₁ s₁ q hva S₁ g₁=>?_)
 refine jz (hi kd _ h2 P env ρ st₁ s₁ _ (X.go S g₁) S₁ q) fun b vb st₂ s₂ q hvb S₂ g₂=>?_
 refine wpAny_mono (jep S₂ (hva.mono (S₁.mono g₂)) hvb h3 q) (fun v s' p=>?_) fun _ _ e=>e
 obtain ⟨mv,tk,hv,k,hs⟩:=p
 rw [hs]
 exact .go (g₁.trans g₂) (.tok S₂ k hv)
theorem Zv(c:Ctx K C A){o i:ME}(ho:EOk C A o)(hi:EOk C A i):EOk C A (.sfrom o i):=by
 intro kd e hc
 apply zx hc;intro x y _ z
 apply Gz (e:=y) z;intro l h t _ z
 refine aE4 z fun ha hb' h1 z=>?_
 apply UC (x:=h) ha
 apply UC (x:=t) hb'
 apply jbR (x:=l) z;intro l h2
 intro P env ρ st s Q X S hw
 refine Subscript_ (jz (ho kd _ h1 P env ρ st s _ X S hw) fun a va st₁ s₁ q hva S₁ g₁=>?_)
 refine wpAny_Slice (jz (hi kd _ h2 P env ρ st₁ s₁ _ (X.go S g₁) S₁ q) fun b vb st₂ s₂ q hvb S₂ g₂=>?_)
 refine wpAny_pure (wpAny_pure ?_)
 obtain ⟨k,e,hk,q⟩:=q
 rw [e] at hvb
 apply yW hvb;intro t
 exact wpAny_mono (oA S₂ (hva.mono (S₁.mono g₂)) hk q) (fun _ _ p=>p.go (g₁.trans g₂)) fun _ _ e=>e
theorem uV(c:Ctx K C A){o i:ME}(ho:EOk C A o)(hi:EOk C A i):EOk C A (.sto o i):=by
 intro kd e hc
 apply zx hc;intro x y _ z
 apply Gz (e:=y) z;intro l h t _ z
 refine aE4 z fun ha hb' h1 z=>?_
 apply UC (x:=l) ha
 apply UC (x:=t) hb'
 apply jbR (x:=h) z;intro h h2
 intro P env ρ st s Q X S hw
 refine Subscript_ (jz (ho kd _ h1 P env ρ st s _ X S hw) fun a va st₁ s₁ q hva S₁ g₁=>?_)
 refine wpAny_Slice (wpAny_pure (jz (hi kd _ h2 P env ρ st₁ s₁ _ (X.go S g₁) S₁ q) fun b vb st₂ s₂ q hvb S₂ g₂=>?_))
 refine wpAny_pure ?_
 obtain ⟨k,e,hk,q⟩:=q
 rw [e] at hvb
 apply yW hvb;intro t
 exact wpAny_mono (jfe S₂ (hva.mono (S₁.mono g₂)) hk q) (fun _ _ p=>p.go (g₁.trans g₂)) fun _ _ e=>e
theorem VS(c:Ctx K C A){o:ME}(ho:EOk C A o):EOk C A (.srev o):=by
 intro kd e hc
 apply zx hc;intro x y _ z
 apply Gz (e:=y) z;intro l h t _ z
 refine aE4 z fun ha hb' hs z=>?_
 apply UC (x:=l) ha
 apply UC (x:=h) hb'
 apply jbR (x:=t) hs;intro t hs
 apply iUn (e:=t) hs;intro o k _ hs
 refine aE2 hs fun h1 hs=>?_
 apply JA (a:=o) h1
 apply JM (e:=k) hs;intro k _ _ hs
 apply JA (a:=k) hs
 intro P env ρ st s Q X S hw
 refine Subscript_ (jz (ho kd _ z P env ρ st s _ X S hw) fun a va st₁ s₁ q hva S₁ g₁=>?_)
 refine wpAny_Slice (wpAny_pure (wpAny_pure ?_))
 rw [evalPart_some]
 refine wpAny_UnaryOp (wpAny_Constant_int (PyProof.Rows.neg_int ?_))
 refine wpAny_mono (jct (S₁.keeps fun _ _ e=>e) hva (.int (-1) _) q) (fun _ _ p=>p.go (g₁.trans (Go.toks _))) fun _ _ e=>e
theorem jfi:Xk C A []:=by
 intro kd es hc
 rw [qr hc]
 intro P env ρ st s Q pos X S hw
 exact wpAny_items_nil ⟨[],st,hw,rfl,S,Go.refl⟩
theorem G6{e:Expr}(h:GV e.ctorIdx=true)(rest:List Expr)(env:Env):starEach (e::rest) env=(false,eval e env)::starEach rest env:=by
 have p:(false,eval e env)::starEach rest env=(false,eval e env)::starEach rest env:=rfl
 cases e<;>first | exact p | exact nomatch (h:GV 22=true)
theorem Ji{kd:Kd}{me:ME}{e:Expr}(h:jB kd me e=true)(rest:List Expr)(env:Env):starEach (e::rest) env=(false,eval e env)::starEach rest env:=G6 (vx h) rest env
theorem jbF{x:ME}{xs:List ME}(hx:EOk C A x)(hxs:Xk C A xs):Xk C A (x::xs):=by
 intro kd es hc
 obtain ⟨e,r,z,hc,hc'⟩:=zk hc
 rw [z]
 intro P env ρ st s Q pos X S hw
 refine wpAny_items_cons (jz (hx kd _ hc P env ρ st s _ X S hw) fun a va st₁ s₁ q hva S₁ g₁=>?_) (Ji hc _ _)
 refine YR (hxs kd _ hc' P env ρ st₁ s₁ _ pos (X.go S g₁) S₁ q) fun mvs vs st₂ s₂ q hvs S₂ g₂=>?_
 exact ⟨a::mvs,st₂,q,⟨va,vs,rfl,hva.mono (S₁.mono g₂),hvs⟩,S₂,g₁.trans g₂⟩
theorem Zm{mvs:List MV}{vs:List Value}{h:Heap}(hvs:Vs P h mvs vs)(hl:mvs.length≤jb):vs.length≤sizeLine:=Nat.le_of_lt (Nat.lt_of_le_of_lt (hvs.length▸hl) jE)
theorem ul{xs:List ME}(hxs:Xk C A xs):EOk C A (.tup xs):=by
 intro kd e hc
 apply YY hc;intro x _ _ z
 intro P env ρ st s Q X S hw
 refine wpAny_Tuple (YR (hxs kd _ z P env ρ st s _ _ X S hw) fun mvs vs st₁ s₁ q hvs S₁ g₁=>⟨Zm hvs q.1,.go g₁ ?_⟩)
 exact ⟨_,st₁,q.2,gl S₁ (jf _ _) (j3 _) ⟨_,j8 _ _ rfl,rfl,_,rfl⟩ q.1 hvs,S₁.keeps (jf _ _),⟨⟨_,s₁.toks,rfl⟩,fun b o e _=>jf _ _ b o e,fun b q=>.inl q⟩⟩
theorem Ve{xs:List ME}(hxs:Xk C A xs):EOk C A (.list xs):=by
 intro kd e hc
 apply Oe hc;intro x _ z
 intro P env ρ st s Q X S hw
 exact wpAny_List (YR (hxs kd _ z P env ρ st s _ _ X S hw) fun mvs vs st₁ s₁ q hvs S₁ g₁=>⟨Zm hvs q.1,.go g₁ (Post.pushList S₁ q.2 q.1 hvs)⟩)
end
section
variable {P:Pm}{A:Around}{K:Frag}{C:jt}
variable {s s₁:Shared}{st st₁:St}
theorem ZO{kd:Kd}{f:Bool×Sem Value->Bool}(hf:∀ t,f (false,t)=true):∀ {mes:List ME}{es:List Expr} (h:Jx kd mes es=true) (pos:Pos) (env:Env),(backTo pos (starEach es env)).all f=true:=by
 intro mes
 induction mes with
 |nil=>intro es h pos env;rw [qr h];rfl
 |cons x xs ih =>
  intro es h pos env
  obtain ⟨e,r,z,h1,h2⟩:=zk h
  rw [z,Ji h1]
  exact (Bool.and_eq_true _ _).mpr ⟨hf _,ih h2 pos env⟩
theorem yu{kd:Kd}{mes:List ME}{es:List Expr}(h:Jx kd mes es=true)(pos:Pos)(env:Env):(backTo pos (starEach es env)).any (·.1)=false:=by
 have q:=ZO (f:=fun x=>!x.1) (fun _=>rfl) h pos env
 rw [List.any_eq_not_all_not,q];rfl
theorem jbW{kd:Kd}{mes:List ME}{es:List Expr}(h:Jx kd mes es=true)(pos:Pos)(env:Env):(backTo pos (starEach es env)).all (fun x=>!x.1)=true:=ZO (fun _=>rfl) h pos env
theorem yw{kd:Kd}{mes:List ME}{es:List Expr}(h:Jx kd mes es=true){f:Value}{pos:Pos}{env:Env}{E:Value->Shared->Prop}{Q:Args->Shared->Prop}
  (hq:wpAny (model prog w) A (spliced (backTo pos (starEach es env))) (fun vs s'=>Q ⟨vs,[]⟩ s') E s):wpAny (model prog w) A (evalArgs f true (backTo pos (starEach es env)) []) Q E s:=by
 cases es with
 |nil =>
  unfold evalArgs
  show wpAny (model prog w) A (spliced []>>=_) Q E s
  refine wpAny_bind (wpAny_mono hq (fun vs s' h'=>?_) fun _ _ x=>x)
  refine wpAny_bind (wpAny_pure ?_)
  refine wpAny_holding ?_
  exact wpAny_bind (wpAny_pure (wpAny_bind (wpAny_pure (wpAny_pure h'))))
 |cons e r =>
  cases mes with
  |nil=>exact nomatch qr h
  |cons m ms =>
   obtain ⟨_,_,z,h1,_⟩:=zk h
   cases z
   rw [Ji h1] at hq ⊢
   exact Calls.evalArgs_plain hq
noncomputable def gM(f:String):Value:=if f = "tuple"\/f = "dict" then .type f else .builtin f
theorem JB{h:Heap}{r:Nat}{vs:List Value}{G:List Value->Prop}(q:Vs P h [.ref r] vs)(k:G [.ref r]):G vs:=by
 obtain ⟨v,t,e,e1,e2⟩:=q;rw [e,show v=_ from e1,show t=_ from e2];exact k
theorem qd{h:Heap}{x:MV}{vs:List Value}{G:List Value->Prop}(q:Vs P h [x] vs)(k:∀ v,V P h x v->G [v]):G vs:=by
 obtain ⟨v,t,e,e1,e2⟩:=q;rw [e,show t=_ from e2];exact k v e1
theorem oe(hs:SysOk P)(hh:A.handled=none){f:String}{mvs:List MV}{vs:List Value}{Q:MV->St->Prop}(S:Sim P st s.heap)(hv:Vs P s.heap mvs vs)(h:y4 f mvs st Q) :
  wpAny (model prog w) A (call (gM f) vs) (Post P st s Q) NoE s:=by
 change BcR st Q f mvs at h
 revert hv
 induction h with
 |len h k=>intro hv;apply JB hv;exact ot S h k
 |lend h k=>intro hv;apply JB hv;exact jaY S hs h k
 |abs k=>intro hv;apply qd hv;intro v hv;exact jdR S hv k
 |sum h l b k=>intro hv;apply JB hv;exact jdE S hh h l b k
 |any h k=>intro hv;apply JB hv;exact jeD S hh h k
 |maxl h n k=>intro hv;apply JB hv;exact jbC S hh h n k
 |max k =>
  rintro ⟨v,r,e,hv,hr⟩
  rw [e]
  apply qd (G:=fun r=>wpAny (model prog w) A (call (gM "max") (v::r)) (Post P st s Q) NoE s) hr;intro u hu;exact jbE S hh hv hu k
 |tuple h k=>intro hv;apply JB hv;exact jaS S h k
 |dictd h k=>intro hv;apply JB hv;exact jcb S hs h k
 |dictl h k=>intro hv;apply JB hv;exact X5 hh S hs h k
theorem jgN{f:String}(h:bnames.contains f=true):f∈["len","abs","sum","any","max"]/\gM f=.builtin f\/f∈["tuple","dict","list","range","enumerate","zip"]/\gM f=.type f :=
 (show ∀ f∈bnames,f∈["len","abs","sum","any","max"]/\gM f=.builtin f\/f∈["tuple","dict","list","range","enumerate","zip"]/\gM f=.type f by decide +kernel) f (List.contains_iff_mem.mp h)
theorem Zl(c:Ctx K C A){f:String}{args:List ME}(ha:Xk C A args):EOk C A (.bcall f args):=by
 intro kd e hc
 apply Js hc;intro _ as _ hk hd z
 refine aE2 z fun hbn h1=>?_
 intro P env ρ st s Q X S hw
 have fin:∀ {pos:Pos},wpAny (model prog w) A (spliced (backTo pos (starEach as env))) (fun vs s₁=>wpAny (model prog w) A (call (gM f) vs) (Post P st s Q) NoE s₁) NoE s:=by
  intro pos
  refine YR (ha kd _ h1 P env ρ st s _ _ X S hw) fun mvs vs st₁ s₁ q hvs S₁ g₁=>?_
  exact xj g₁ (oe c.sys c.hh S₁ hvs q)
 rcases jgN hbn with ⟨m,e⟩ | ⟨m,e⟩
 ·rw [e] at fin;exact Call_Name rfl (Yc (c.F.bfn _ m) X S hk hd (Calls.callWith_builtin (yu h1 _ _) (yw h1 fin)))
 ·rw [e] at fin;exact Call_Name rfl (Yc (c.F.btp _ m) X S hk hd (PySem.callWith_type (yu h1 _ _) (yw h1 fin)))
theorem uC(c:Ctx K C A){f:String}{v:Value}{mvs:List MV}{vs:List Value}{Q:MV->St->Prop}(h:Gi f v)(S:Sim P st s.heap)(hv:Vs P s.heap mvs vs)(q:C f mvs st Q):wpAny (model prog w) A (call v vs) (Post P st s Q) NoE s:=by
 refine wpAny_call (codeAny_mono (c.hC P f v mvs vs st s Q h S hv q) fun r s' z=>?_)
 obtain ⟨u,e,p⟩:=z
 rw [e];exact p
theorem Vx(c:Ctx K C A){f:String}{args:List ME}(ha:Xk C A args):EOk C A (.call f args):=by
 intro kd e hc
 apply Js hc;intro _ as _ hk hd z
 refine aE3 z fun hg h1 _=>?_
 intro P env ρ st s Q X S hw
 have hgm:f∈gnames:=List.contains_iff_mem.mp hg
 have fin:∀ {v:Value}{pos:Pos},Gi f v->wpAny (model prog w) A (spliced (backTo pos (starEach as env))) (fun vs s₁=>K.In s₁.heap/\wpAny (model prog w) A (call v vs) (Post P st s Q) NoE s₁) NoE s:=by
  intro v pos hcal
  exact YR (ha kd _ h1 P env ρ st s _ _ X S hw) fun mvs vs st₁ s₁ q hvs S₁ g₁=>⟨c.F.inK.keeps (S₁.keep),xj g₁ (uC c hcal S₁ hvs q)⟩
 cases hcl:classes.contains f with
 |false =>
  obtain ⟨⟨fn,ht⟩,g⟩:=c.F.gfn f hgm hcl
  obtain ⟨o,fd,ho,hd',FO,hcd,hty,hkeep⟩:=c.F.fn f fn ht
  exact Call_Name rfl (Yc g X S hk hd (callWith_of (by rw [yu h1];rfl) (fun h X=>keeps_K hkeep h X) (yw h1 (fin (.inl ⟨hcl,rfl⟩)))))
 |true =>
  obtain ⟨Ca,hC,g⟩:=c.F.gcls f hcl
  exact Call_Name rfl (Yc g X S hk hd (callWith_of (by rw [yu h1];rfl) (fun h X=>keeps_K (c.F.cls f Ca hC).1.2 h X) (yw h1 (fin (.inr ⟨hcl,Ca,hC,rfl⟩)))))
theorem Y1{kd:Kd}{env:Env}{ρ:ja}{x:String}{p pos:Pos}{e:Expr}{Q:Value->Shared->Prop}{Q':Value->Shared->Prop}(hs:starEach [e] env=[(false,eval e env)])(c:Ctx K C A)(hx:x∈["tuple","dict","list","range","enumerate","zip"])
  (X:EnvOk P kd env ρ s.heap) (S:Sim P st s.heap) (hk:kd (Str.ofString x)=some .globalImplicit) (hd:(Str.ofString x==("__debug__" : Str))=false)
  (h:wpAny (model prog w) A (eval e env) Q' NoE s) (hq:∀ v s₁,Q' v s₁->wpAny (model prog w) A (call (.type x) [v]) Q NoE s₁):wpAny (model prog w) A (eval (.Call (.Name (Str.ofString x) p) [e] [] pos) env) Q NoE s:=by
 refine Call_Name (trees:=[(false,eval e env)]) (by rw [hs];rfl) (Yc (c.F.btp _ hx) X S hk hd (PySem.callWith_type rfl (Calls.evalArgs_plain (Calls.spliced_cons (wpAny_mono h (fun v s₁ h₁=>Calls.spliced_nil (hq v s₁ h₁)) fun _ _ e=>e)))))
theorem Gu{kd:Kd}{env:Env}{ρ:ja}{x:String}{p pos:Pos}{e e₂:Expr}{Q:Value->Shared->Prop}{Q':Value->Shared->Prop}{Q'':Value->Value->Shared->Prop}(hs:starEach [e,e₂] env=[(false,eval e env),(false,eval e₂ env)])(c:Ctx K C A)
  (hx:x∈["tuple","dict","list","range","enumerate","zip"]) (X:EnvOk P kd env ρ s.heap) (S:Sim P st s.heap) (hk:kd (Str.ofString x)=some .globalImplicit) (hd:(Str.ofString x==("__debug__" : Str))=false)
  (h:wpAny (model prog w) A (eval e env) Q' NoE s) (h₂:∀ v s₁,Q' v s₁->wpAny (model prog w) A (eval e₂ env) (Q'' v) NoE s₁) (hq:∀ v u s₂,Q'' v u s₂->wpAny (model prog w) A (call (.type x) [v,u]) Q NoE s₂) :
  wpAny (model prog w) A (eval (.Call (.Name (Str.ofString x) p) [e,e₂] [] pos) env) Q NoE s:=by
 refine Call_Name (trees:=[(false,eval e env),(false,eval e₂ env)]) (by rw [hs];rfl) (Yc (c.F.btp _ hx) X S hk hd (PySem.callWith_type rfl (Calls.evalArgs_plain (Calls.spliced_cons (wpAny_mono h (fun v s₁ h₁=>?_) fun _ _ e=>e)))))
 exact Calls.spliced_cons (wpAny_mono (h₂ v s₁ h₁) (fun u s₂ hu=>Calls.spliced_nil (hq v u s₂ hu)) fun _ _ e=>e)
theorem U1{kd:Kd}{mi:MI}{e:Expr}(h:vj kd mi e=true)(env:Env):starEach [e] env=[(false,eval e env)]:=G6 (jam h) [] env
theorem qQ(c:Ctx K C A){x:ME}(hx:EOk C A x):EOk C A (.mkdlist x):=by
 intro kd e hc
 apply Js hc;intro _ as _ hk hd z
 apply ZT (l:=as) z;intro a h1
 intro P env ρ st s Q X S hw
 refine Y1 (Ji h1 [] env) c (by simp) X S hk hd (hx kd _ h1 P env ρ st s _ X S hw) fun v s₁ p=>?_
 obtain ⟨mv,st₁,⟨r,es,e,h1,q⟩,hv,S₁,g₁⟩:=p
 rw [e] at hv
 apply vIs hv
 exact xj g₁ (Gy c.hh S₁ c.sys h1 q)
theorem jeP{it:MI}(h:OD it=true):VI it≠.enum:=by
 have p:OD it=true->VI it≠.enum:=by cases it<;>intro h q<;>first | cases q;done | (cases q;cases h)
 exact p h
theorem Xx(c:Ctx K C A){it:MI}(hi:IOk C A it):EOk C A (.mklist it):=by
 intro kd e hc
 apply Js hc;intro _ as _ hk hd z
 apply ZT (l:=as) z;intro a z
 refine aE2 z fun h1 hof=>?_
 intro P env ρ st s Q X S hw
 refine Y1 (U1 h1 env) c (by simp) X S hk hd (hi kd _ h1 P env ρ st s _ X S hw) fun v s₁ p=>?_
 obtain ⟨xs,src,st₁,s₀,⟨hlen,q⟩,hst,S₁,g₁,he,kp,I⟩:=p
 exact wpAny_mono (Uy c.hh I (jeP hof) S₁ hst he kp hlen q) (fun _ _ p=>p.go g₁) fun _ _ e=>e
end
section
variable {P:Pm}{A:Around}{K:Frag}{C:jt}
variable {s s₁:Shared}{st st₁:St}{E:Value->Shared->Prop}
theorem gf{l b:Addr}{items items2:Array Value}{n n2:Nat}{o:Obj}{T:String}{Q:Value->Shared->Prop}(hT:T = "list"\/T = "tuple")(hl:s.heap.get? l=some (jL items n))(ho:s.heap.get? b=some o)(hc:o.cls=.type T)(hd:o.data=.seq items2 n2)
  (hsz:items.size+items2.size≤sizeLine) (h:Q .none { s with heap:=s.heap.update l (Obj.mapSeq (·++items2)) }):wpAny (model prog w) A (call (.builtin "list.extend") [.ref l,.ref b]) Q E s:=by
 have hTl:s.TypeIs (.ref l) "list":=⟨_,hl,rfl⟩
 refine wpAny_call (codeAny_call_builtin F.slot_list_extend.plain F.entry_list_extend (F.slot_list_extend.check _ _ _ _ _ _ _ _ hTl (F.args_list_extend_2 _ _) ?_))
 show wpAny _ A.in1 (Builtin.List.listExtendWith (.ref l) (.ref b) .none) _ _ s
 unfold Builtin.List.listExtendWith
 refine wpAny_bind (wpAny_typeOf ⟨o,ho,hc⟩ ?_)
 have h1:(Builtin.List.listSameRef (.ref l) (.ref b)||Value.type T==Value.type "list"||Value.type T==Value.type "tuple")=true:=by
  rcases hT with rfl | rfl<;>simp
 simp only [h1,if_true]
 refine wpAny_bind ?_
 unfold Builtin.List.listItems
 refine wpAny_bind (wpAny_seqItems ho hd (wpAny_pure ?_))
 refine wpAny_bind ?_
 refine wpAny_bind (wpAny_seqItems hl rfl (wpAny_pure ?_))
 have h2:(!items.isEmpty&&Builtin.List.listTooLong (items.size+items2.size))=false:=by
  have:Builtin.List.listTooLong (items.size+items2.size)=false:=by simp [Builtin.List.listTooLong];w_up
  rw [this,Bool.and_false]
 simp only [h2,Bool.false_eq_true,if_false]
 show wpAny _ A.in1 (updateSeq l (·++items2)>>=fun _=>ret .none) _ _ s
 refine wpAny_bind (wpAny_updateSeq (hz:=by w_up) (_hz':=by show (items++items2).size≤_;rw [Array.size_append];w_up) hl rfl ?_)
 exact wpAny_pure h
theorem Post.putList{Q:MV->St->Prop}{r:Nat}{xs ys:List MV}{mv:MV}{v:Value}{us:Array Value}{n:Nat}{f:Array Value->Array Value}{tk:Nat}(S:Sim P st s.heap)(h1:st r=some (.list xs))(e1:s.heap.get? r=some (jL us n))
  (hl:ys.length≤jb) (hv:Vs P s.heap ys (f us).toList) (k:Q mv (st.put r (.list ys))) (hm:V P s.heap mv v) :
  Post P st s Q v { s with heap:=s.heap.update r (Obj.mapSeq f),toks:=tk }:=by
 have go:∀ b o,b≠r->s.heap.get? b=some o->(s.heap.update r (Obj.mapSeq f)).get? b=some o:=fun b o hb e=>(Heap.get?_update_other _ _ (Ne.symm hb)).trans e
 have m:Mono P s.heap (s.heap.update r (Obj.mapSeq f)):=S.mono_of fun b ob z nw=>go b ob (fun q=>by rw [q] at nw;exact no nw h1) z
 have R:Rep P (s.heap.update r (Obj.mapSeq f)) r (.list ys):=⟨_,_,Heap.get?_update_self _ e1 rfl,hl,hv.mono m⟩
 exact ⟨mv,_,k,hm.mono m,S.put (x:=r) h1 (.inl rfl) rfl (.inl rfl) go R.ob R,Go.put (x:=r) h1 (.of h1 rfl) go⟩
theorem jcE{xs ys:List MV}{a b:Nat}(h:xs.length+ys.length<jb)(z:xs.length=a)(z':ys.length=b):a+b≤sizeLine/\(xs++ys).length≤jb:=by
 have:=jE
 rw [List.length_append];subst z z';exact ⟨by w_up,by w_up⟩
theorem gP{r:Nat}{xs:List MV}{x:MV}{v:Value}{Q:MV->St->Prop}(S:Sim P st s.heap)(h1:st r=some (.list xs))(hx:V P s.heap x v)(hl:xs.length<jb)(k:Q .none (st.put r (.list (xs++[x])))) :
  wpAny (model prog w) A (call (.builtin "list.append") [.ref r,v]) (Post P st s Q) NoE s:=by
 obtain ⟨us,n,e1,_,hv,z,_⟩:=S.lst h1
 refine call_meets F.slot_list_append ⟨_,e1,rfl⟩ F.entry_list_append (F.args_list_append_2 _ _) (list_append r us n v (zy z hl)) ⟨e1,?_⟩
 exact Post.putList (f:=fun x=>x.push v) S h1 e1 (ys:=xs++[x]) (by rw [List.length_append];exact hl) (by rw [Array.toList_push];exact hv.snoc hx) k rfl
theorem Zr{r b:Nat}{xs ys:List MV}{T:String}{us':Array Value}{n':Nat}{o:Obj}{Q:MV->St->Prop}(S:Sim P st s.heap)(hT:T = "list"\/T = "tuple")(h1:st r=some (.list xs))(ho:s.heap.get? b=some o)(hc:o.cls=.type T)(hd:o.data=.seq us' n')(hv':Vs P s.heap ys us'.toList)
  (hl:xs.length+ys.length<jb) (k:Q .none (st.put r (.list (xs++ys)))):wpAny (model prog w) A (call (.builtin "list.extend") [.ref r,.ref b]) (Post P st s Q) NoE s:=by
 obtain ⟨us,n,e1,_,hv,z,_⟩:=S.lst h1
 have g:=jcE hl z (hv'.length.trans Array.length_toList)
 exact gf hT e1 ho hc hd g.1 (Post.putList (f:=(·++us')) S h1 e1 (ys:=xs++ys) g.2 (by rw [Array.toList_append];exact hv.append hv') k rfl)
theorem Gj{r t:Nat}{xs ys:List MV}{Q:MV->St->Prop}(S:Sim P st s.heap)(h1:st r=some (.list xs))(h2:st t=some (.list ys))(hl:xs.length+ys.length<jb)(k:Q .none (st.put r (.list (xs++ys)))) :
  wpAny (model prog w) A (call (.builtin "list.extend") [.ref r,.ref t]) (Post P st s Q) NoE s:=by
 obtain ⟨us',n',e2,_,hv',_⟩:=S.lst h2
 exact Zr S (.inl rfl) h1 e2 rfl rfl hv' hl k
theorem Vi{r:Nat}{xs ys:List MV}{v:Value}{Q:MV->St->Prop}(S:Sim P st s.heap)(h1:st r=some (.list xs))(h2:V P s.heap (.tup ys) v)(hl:xs.length+ys.length<jb)(k:Q .none (st.put r (.list (xs++ys)))) :
  wpAny (model prog w) A (call (.builtin "list.extend") [.ref r,v]) (Post P st s Q) NoE s:=by
 obtain ⟨a,us',e,_,⟨o,ho,hc,n',hd⟩,hv'⟩:=h2
 apply vIs e
 exact Zr S (.inr rfl) h1 ho hc hd hv' hl k
theorem jbm{ys:List MV}{x:MV}{us:Array Value}{h:Heap}{vs:List Value}{v:Value}(z:(ys++[x]).length=us.size)(e:us.toList=vs++[v])(hv:Vs P h ys vs):us[us.size - 1]? = some v/\(us.eraseIdxIfInBounds (us.size - 1)).toList=vs:=by
 rw [List.length_append,hv.length] at z
 rw [← Array.getElem?_toList,Array.toList_eraseIdxIfInBounds,e,← z]
 simp [List.eraseIdx_append_of_length_le]
theorem jbP{r:Nat}{ys:List MV}{x:MV}{Q:MV->St->Prop}(S:Sim P st s.heap)(h1:st r=some (.list (ys++[x])))(k:Q x (st.put r (.list ys))) :
  wpAny (model prog w) A (call (.builtin "list.pop") [.ref r]) (Post P st s Q) NoE s:=by
 obtain ⟨us,n,e1,hb,hv,z,_⟩:=S.lst h1
 obtain ⟨vs,v,hvs,hv1,hv2⟩:=hv.unsnoc
 have g:=jbm z hvs hv1
 refine call_meets F.slot_list_pop ⟨_,e1,rfl⟩ F.entry_list_pop (F.args_list_pop_1 _) (MeetsSeq.list_pop_last r us n v g.1 (Nat.le_of_lt (Nat.lt_of_le_of_lt (z▸hb) jE))) ⟨e1,?_⟩
 exact Post.putList (f:=fun xs=>xs.eraseIdxIfInBounds (us.size - 1)) S h1 e1 (Nat.le_trans (by rw [List.length_append];exact Nat.le_add_right ..) hb) (by rw [g.2];exact hv1) k hv2
theorem jce{r:Nat}{es:List (Int×MV)}{i:Int}{t:Tok}{d:MV}{vd:Value}{Q:MV->St->Prop}(S:Sim P st s.heap)(hs:SysOk P)(h1:st r=some (.idict es))(hd:V P s.heap d vd)(k:Q ((lkD es i).getD d) st) :
  wpAny (model prog w) A (call (.builtin "dict.get") [.ref r,.int i t,vd]) (Post P st s Q) NoE s:=by
 obtain ⟨kvs,hdi,_,hk⟩:=S.rep _ _ h1
 have q:=xD hk i
 refine call_meetsIn F.slot_dict_get hdi.typeIs F.entry_dict_get (F.args_dict_get_3 _ _ _) (meets_dict_get_default (intKind prog w) (k:=i) r vQ (Y0 S hs h1) vd) ⟨_,hdi.mapOf,?_⟩
 have fin:∀ v tk,V P s.heap ((lkD es i).getD d) v->Post P st s Q v { s with toks:=tk }:=fun v _ h=>.tok S k h
 have q1:=q.1
 have q2:=q.2
 clear q k
 cases e:lkD es i with
 |none =>
  rw [e] at fin q1
  cases z:valueAt kvs i with
  |none=>exact fin _ _ hd
  |some _=>rw [z] at q1;cases q1
 |some u =>
  rw [e] at fin
  obtain ⟨v,hv,hV⟩:=q2 u e
  rw [hv]
  exact fin _ _ hV
end
section
variable {P:Pm}{A:Around}{K:Frag}{C:jt}
variable {s s₁:Shared}{st st₁:St}{E:Value->Shared->Prop}
theorem Up{env:Env}{o:Expr}{name:Str}{apos pos:Pos}{args:List Expr}{trees:List (Bool×Sem Value)}{f:Value->Shared->Prop}{Q:Value->Shared->Prop}
  (hbase:attributeBase o name env (eval o env)=eval o env)
  (hfew:((backTo pos (starEach args env)).all (fun x=>!x.1)&&(backToKw pos (keywordEach [] env)).all (fun x=>x.1.isSome)
   && decide (args.length+([]:List Keyword).length+(if ([]:List Keyword).isEmpty then 0 else 1)<30))=true)
  (hline:(apos.endLine==pos.line)=true) (htrees:backTo pos (starEach args env)=trees)
  (h:wpAny (model prog w) A (eval o env) f E s) (hf:∀ ov s₁,f ov s₁->∀ {G:Prop},(∀ f first,(∀ (pl:Sem Bool) (Q':Value×List Value->Shared->Prop),Q' (f,first) s₁->wpAny (model prog w) A (getMethod ov name pl) Q' E s₁) ->
   wpAny (model prog w) A (callWith pos f first trees []) Q E s₁->G)->G) :
  wpAny (model prog w) A (eval (.Call (.Attribute o name apos) args [] pos) env) Q E s:=by
 subst htrees
 rw [arm_eval_Call,hbase]
 refine wpAny_bind (wpAny_mono h (fun ov s₁ h₁=>?_) fun _ _ e=>e)
 refine hf _ _ h₁ fun f first hg hc=>?_
 refine wpAny_bind (wpAny_standAt ?_)
 have hform:methodCallForm (args.length+([]:List Keyword).length) (backTo pos (starEach args env)) (backToKw pos (keywordEach [] env))=true:=hfew
 have hpos:methodCallPos true o env apos pos=pure pos:=by unfold methodCallPos;simp [hline]
 unfold methodCall
 rw [hform]
 refine wpAny_bind (wpAny_holding (hg _ _ ?_))
 exact wpAny_bind (wpAny_of_eq hpos hc)
theorem zS{kd:Kd}{env:Env}{ρ:ja}{args:List ME}{es:List Expr}{pos:Pos}{Q:MV->St->Prop}{Q':List MV->St->Prop}(ha:Xk C A args)(h1:Jx kd args es=true)(X:EnvOk P kd env ρ s₁.heap)(S:Sim P st₁ s₁.heap)(g:Go st s st₁ s₁)
  (hw:J0 C args ρ st₁ Q') {v:Value}{first:List Value} (hq:∀ mvs vs st₂ s₂,Q' mvs st₂->Vs P s₂.heap mvs vs->Sim P st₂ s₂.heap->Go st₁ s₁ st₂ s₂->wpAny (model prog w) A (call v (first++vs)) (Post P st₂ s₂ Q) NoE s₂) {f:Value} :
  wpAny (model prog w) A (evalArgs f true (backTo pos (starEach es env)) []) (fun a s₂=>wpAny (model prog w) A (call v (first++a.pos) a.kw) (Post P st s Q) NoE s₂) NoE s₁:=by
 refine yw h1 (YR (ha kd _ h1 P env ρ st₁ s₁ _ _ X S hw) fun mvs vs st₂ s₂ q hvs S₂ g₂=>?_)
 exact xj (g.trans g₂) (hq mvs vs st₂ s₂ q hvs S₂ g₂)
noncomputable def MObj.tag(o:MObj):Nat:=o.casesOn (fun _=>0) (fun _=>1) (fun _=>2) (fun _=>3) (fun _ _ _=>4) (fun _=>5)
theorem jdh{x:Option MObj}{a b:MObj}{G:Prop}(e:x=some a)(f:x=some b)(h:Nat.beq a.tag b.tag=false:=by rfl):G:=by
 have q:=Option.some.inj (e.symm.trans f)
 rw [q,Nat.beq_refl] at h;cases h
theorem Jt{st:St}{r r':Nat}{x:Option MObj}(e:MV.ref r=.ref r')(h:st r=x):st r'=x:=by cases e;exact h
theorem VE{st st₁:St}{r:Nat}{o:MObj}(hr:st r=some o)(a:jF (.ref r) st st₁):∃ o',st₁ r=some o'/\o'.tag=o.tag:=by
 change ZK st st₁ (.ref r) at a
 generalize ho:MV.ref r=v at a
 induction a with
 |list h h'=>exact ⟨_,Jt ho.symm h',Option.some.inj ((Jt ho.symm h).symm.trans hr)▸rfl⟩
 |dict h h'=>exact ⟨_,Jt ho.symm h',Option.some.inj ((Jt ho.symm h).symm.trans hr)▸rfl⟩
 |inst h h'=>exact ⟨_,Jt ho.symm h',Option.some.inj ((Jt ho.symm h).symm.trans hr)▸rfl⟩
theorem j4{st:St}{r r':Nat}{o o':MObj}{n:Nat}{G:Prop}(h:st r=some o)(z:o.tag=n)(e:MV.ref r=.ref r')(f:st r'=some o')(q:Nat.beq o'.tag n=false:=by rfl):G:=by
 have y:=Option.some.inj (f.symm.trans (Jt e h))
 rw [y,z,Nat.beq_refl] at q;cases q
theorem Yi{st st₁:St}{r:Nat}{m:String}{xs mvs:List MV}{Q:MV->St->Prop}{G:Prop}(hr:st₁ r=some (.list xs))(a:jF (.ref r) st₁ st)(q:yF C (.ref r) m mvs st Q)
  (k1:∀ v ys,m = "append"->mvs=[v]->st r=some (.list ys)->ys.length<jb->Q .none (st.put r (.list (ys++[v])))->G)
  (k2:∀ t ys zs,m = "extend"->mvs=[.ref t]->st r=some (.list ys)->st t=some (.list zs)->ys.length+zs.length<jb->Q .none (st.put r (.list (ys++zs)))->G)
  (k3:∀ ys zs,m = "extend"->mvs=[.tup zs]->st r=some (.list ys)->ys.length+zs.length<jb->Q .none (st.put r (.list (ys++zs)))->G)
  (k4:∀ ys v,m = "pop"->mvs=[]->st r=some (.list (ys++[v]))->Q v (st.put r (.list ys))->G):G:=by
 obtain ⟨o,h',z⟩:=VE hr a
 clear a hr
 change xX C st Q (.ref r) m mvs at q
 generalize ho:MV.ref r=v at q
 induction q with
 |append e h l k=>cases ho;exact k1 _ _ e rfl h l k
 |extend e h _ h2 l k=>cases ho;exact k2 _ _ _ e rfl h h2 l k
 |extendt e h l k=>cases ho;exact k3 _ _ e rfl h l k
 |pop e h k=>cases ho;exact k4 _ _ e rfl h k
 |get _ h=>exact j4 h' z ho h
 |inst h=>exact j4 h' z ho h
theorem X6{st st₁:St}{r:Nat}{m:String}{es}{mvs:List MV}{Q:MV->St->Prop}{G:Prop}(hr:st₁ r=some (.idict es))(a:jF (.ref r) st₁ st)(q:yF C (.ref r) m mvs st Q)
  (k:∀ x d es,mvs=[.int x,d]->st r=some (.idict es)->Q ((lkD es x).getD d) st->G):G:=by
 obtain ⟨o,h',z⟩:=VE hr a
 clear a hr
 change xX C st Q (.ref r) m mvs at q
 generalize ho:MV.ref r=v at q
 induction q with
 |get _ h q=>cases ho;exact k _ _ _ rfl h q
 |append _ h=>exact j4 h' z ho h
 |extend _ h=>exact j4 h' z ho h
 |extendt _ h=>exact j4 h' z ho h
 |pop _ h=>exact j4 h' z ho h
 |inst h=>exact j4 h' z ho h
theorem UL{st st₁:St}{r d:Nat}{c:String}{fs}(hr:st r=some (.inst c d fs))(a:jF (.ref r) st st₁):∃ d' fs',st₁ r=some (.inst c d' fs'):=by
 change ZK st st₁ (.ref r) at a
 generalize ho:MV.ref r=v at a
 induction a with
 |list h=>exact jdh hr (Jt ho.symm h)
 |dict h=>exact jdh hr (Jt ho.symm h)
 |inst h h'=>cases hr.symm.trans (Jt ho.symm h);exact ⟨_,_,Jt ho.symm h'⟩
theorem Ue{st st₂:St}{r d:Nat}{cn m:String}{fs}{mvs:List MV}{Q:MV->St->Prop}(hr:st r=some (.inst cn d fs))(a:jF (.ref r) st st₂)(b:yF C (.ref r) m mvs st₂ Q):C (cn++"."++m) (.ref r::mvs) st₂ Q:=by
 obtain ⟨d',fs',h'⟩:=UL hr a
 clear a hr
 change xX C st₂ Q (.ref r) m mvs at b
 generalize ho:MV.ref r=v at b
 induction b with
 |inst h _ k=>cases (Jt ho h').symm.trans h;cases ho;exact k
 |append _ h=>exact j4 h' rfl ho h
 |extend _ h=>exact j4 h' rfl ho h
 |extendt _ h=>exact j4 h' rfl ho h
 |pop _ h=>exact j4 h' rfl ho h
 |get _ h=>exact j4 h' rfl ho h
section
variable {st st₂:St}{s₂:Shared}{r:Nat}{xs mvs:List MV}{vs:List Value}{Q:MV->St->Prop} (hr:st r=some (.list xs)) (a:jF (.ref r) st st₂) (hv:Vs P s₂.heap mvs vs) (S₂:Sim P st₂ s₂.heap)
include hr a hv S₂
theorem g9(q:yF C (.ref r) "append" mvs st₂ Q):wpAny (model prog w) A (call (.builtin "list.append") (.ref r::vs)) (Post P st₂ s₂ Q) NoE s₂ :=
 Yi hr a q (fun v ys _ e h l k=>qd (G:=fun vs=>wpAny (model prog w) A (call (.builtin "list.append") (.ref r::vs)) (Post P st₂ s₂ Q) NoE s₂) (e▸hv) fun u hu=>gP S₂ h hu l k) (fun _ _ _ e=>absurd e (by decide)) (fun _ _ e=>absurd e (by decide)) fun _ _ e=>absurd e (by decide)
theorem gy(q:yF C (.ref r) "extend" mvs st₂ Q):wpAny (model prog w) A (call (.builtin "list.extend") (.ref r::vs)) (Post P st₂ s₂ Q) NoE s₂ :=
 Yi hr a q (fun _ _ e=>absurd e (by decide)) (fun t ys zs _ e h h' l k=>JB (G:=fun vs=>wpAny (model prog w) A (call (.builtin "list.extend") (.ref r::vs)) (Post P st₂ s₂ Q) NoE s₂) (e▸hv) (Gj S₂ h h' l k))
  (fun ys zs _ e h l k=>qd (G:=fun vs=>wpAny (model prog w) A (call (.builtin "list.extend") (.ref r::vs)) (Post P st₂ s₂ Q) NoE s₂) (e▸hv) fun u hu=>Vi S₂ h hu l k) fun _ _ e=>absurd e (by decide)
theorem jcv(q:yF C (.ref r) "pop" mvs st₂ Q):wpAny (model prog w) A (call (.builtin "list.pop") (.ref r::vs)) (Post P st₂ s₂ Q) NoE s₂ :=
 Yi hr a q (fun _ _ e=>absurd e (by decide)) (fun _ _ _ e=>absurd e (by decide)) (fun _ _ e=>absurd e (by decide)) fun ys v _ e h k=>by
  rw [e] at hv;rw [show vs=[] from hv];exact jbP S₂ h k
end
theorem jbv(hs:SysOk P){st₁ st₂:St}{s₂:Shared}{r:Nat}{m:String}{es:List (Int×MV)}{mvs:List MV}{vs:List Value}{Q:MV->St->Prop}(hr:st₁ r=some (.idict es))(a:jF (.ref r) st₁ st₂)(hv:Vs P s₂.heap mvs vs)(S₂:Sim P st₂ s₂.heap)(q:yF C (.ref r) m mvs st₂ Q) :
  wpAny (model prog w) A (call (.builtin "dict.get") (.ref r::vs)) (Post P st₂ s₂ Q) NoE s₂:=by
 refine X6 hr a q fun x d es e h k=>?_
 rw [e] at hv
 obtain ⟨v,t,e1,hx,hv⟩:=hv
 rw [e1]
 apply yW hx;intro tk
 exact qd (G:=fun t=>wpAny (model prog w) A (call (.builtin "dict.get") (.ref r::.int x tk::t)) (Post P st₂ s₂ Q) NoE s₂) hv fun u hu=>jce S₂ hs h hu k
inductive Qf (P:Pm) (A:Around) (st:St) (s s₁:Shared) (m:String) (es:List Expr) (env:Env) (pos:Pos) (Q:MV->St->Prop) (ov:Value):Prop
 | mk (f:Value) (first:List Value) (g:∀ (pl:Sem Bool) (Q':Value×List Value->Shared->Prop),Q' (f,first) s₁->wpAny (model prog w) A (getMethod ov (Str.ofString m) pl) Q' NoE s₁) (h:wpAny (model prog w) A (callWith pos f first (backTo pos (starEach es env)) []) (Post P st s Q) NoE s₁)
section
variable {kd:Kd}{env:Env}{ρ:ja}{args:List ME}{es:List Expr}{pos:Pos}{m:String}{r:Nat}{Q:MV->St->Prop} (c:Ctx K C A) (ha:Xk C A args) (h2:Jx kd args es=true) (X:EnvOk P kd env ρ s₁.heap) (S:Sim P st₁ s₁.heap) (g:Go st s st₁ s₁)
 (q:J0 C args ρ st₁ fun vs st₂=>jF (.ref r) st₁ st₂/\yF C (.ref r) m vs st₂ Q)
include ha h2 X S g q
theorem oi{xs:List MV}(hr:st₁ r=some (.list xs))(e:m = "append"\/m = "extend"\/m = "pop"):Qf P A st s s₁ m es env pos Q (.ref r):=by
 obtain ⟨us,n,e1,_⟩:=S.lst hr
 have hty:s₁.TypeIs (.ref r) "list":=⟨_,e1,rfl⟩
 have hdn:∀ a,Value.ref r=.ref a->∃ o,s₁.heap.get? a=some o/\o.dict=none:=by intro a q;cases q;exact ⟨_,e1,rfl⟩
 rcases e with rfl | rfl | rfl
 ·exact ⟨_,_,fun pl Q' hq=>getMethod_builtin hty F.plainAttrs_list F.slot_list_append type_list_append hdn hq,Calls.callWith_builtin (yu h2 _ _) (zS ha h2 X S g q fun _ _ _ _ q hvs S₂ _=>g9 hr q.1 hvs S₂ q.2)⟩
 ·exact ⟨_,_,fun pl Q' hq=>getMethod_builtin hty F.plainAttrs_list F.slot_list_extend F.type_list_extend hdn hq,Calls.callWith_builtin (yu h2 _ _) (zS ha h2 X S g q fun _ _ _ _ q hvs S₂ _=>gy hr q.1 hvs S₂ q.2)⟩
 ·exact ⟨_,_,fun pl Q' hq=>getMethod_builtin hty F.plainAttrs_list F.slot_list_pop F.type_list_pop hdn hq,Calls.callWith_builtin (yu h2 _ _) (zS ha h2 X S g q fun _ _ _ _ q hvs S₂ _=>jcv hr q.1 hvs S₂ q.2)⟩
include c
theorem Uo{ds:List (Int×MV)}(hr:st₁ r=some (.idict ds))(e:m = "get"):Qf P A st s s₁ m es env pos Q (.ref r):=by
 subst e
 obtain ⟨kvs,hd,_⟩:=S.rep _ _ hr
 have hdn:∀ a,Value.ref r=.ref a->∃ o,s₁.heap.get? a=some o/\o.dict=none:=by
  intro a q;cases q
  obtain ⟨o,_,_,e,hx,_⟩:=id hd
  exact ⟨o,e,hx.2.1⟩
 exact ⟨_,_,fun pl Q' hq=>getMethod_builtin hd.typeIs F.plainAttrs_dict F.slot_dict_get F.type_dict_get hdn hq,Calls.callWith_builtin (yu h2 _ _) (zS ha h2 X S g q fun _ _ _ _ q hvs S₂ _=>jbv c.sys hr q.1 hvs S₂ q.2)⟩
theorem UD{d:Nat}{cn:String}{fs}(hr:st₁ r=some (.inst cn d fs))(hno:lkF fs m=Option.none)(him:instMeths.contains (cn++"."++m)=true):Qf P A st s s₁ m es env pos Q (.ref r):=by
 obtain ⟨Ca,us,n,hC,e1,e2,hfs⟩:=S.rep _ _ hr
 have XK:K.In s₁.heap:=c.F.inK.keeps (S.keep)
 obtain ⟨⟨CO,_⟩,_⟩:=c.F.cls _ _ hC
 obtain ⟨hncl,⟨fn,htab⟩,hfind⟩:=c.F.meth _ _ _ hC him
 obtain ⟨of,fd,hof,hdf,FO,hcd,htyf,hkeep⟩:=c.F.fn _ _ htab
 refine ⟨.ref (fa (cn++"."++m)),[.ref r],fun pl Q' hq=>method_fn XK (qp e1 e2) CO.ga CO.gat hfind htyf ?_ hq,?_⟩
 ·simp only [shadowIn,O0 hfs hno];rfl
 ·refine callWith_of (by rw [yu h2];rfl) (fun h X=>keeps_K hkeep h X) ?_
  refine yw h2 (YR (ha kd _ h2 P env ρ st₁ s₁ _ _ X S q) fun mvs vs st₂ s₂ q hvs S₂ g₂=>⟨c.F.inK.keeps (S₂.keep),?_⟩)
  exact xj (g.trans g₂) (uC c (f:=cn++"."++m) (mvs:=.ref r::mvs) (.inl ⟨hncl,rfl⟩) S₂ (show Vs P s₂.heap (.ref r::mvs) (.ref r::vs) from ⟨_,_,rfl,rfl,hvs⟩) (Ue hr q.1 q.2))
end
theorem QR(c:Ctx K C A){o:ME}{m:String}{args:List ME}(ho:EOk C A o)(ha:Xk C A args):EOk C A (.meth o m args):=by
 intro kd e hc
 apply Q6 hc;intro t as ks p z
 refine aE2 z fun hks z=>?_
 apply gQ (l:=ks) hks
 apply vf (e:=t) z;intro x n q z
 refine aE7 z fun ha' hmn h1 h2 h3 h4 h5=>?_
 apply JA (a:=n) ha'
 intro P env ρ st s Q X S hw
 refine Up (GS h3) ?_ (by rw [beq_iff_eq.mp h4];exact beq_self_eq_true _) rfl (f:=fun ov s₁=>Qf P A st s s₁ m as env p Q ov) (jz (ho kd _ h1 P env ρ st s _ X S hw) fun mv ov st₁ s₁ q hov S₁ g₁=>?_) fun ov s₁ h _ k=>?_
 ·rw [jbW h2]
  exact decide_eq_true (show as.length+0+0<30 from Nat.lt_of_le_of_lt (of_decide_eq_true h5) (by decide))
 ·have hat:=q.1
  have q:=q.2
  have X₁:=X.go S g₁
  revert hov q
  induction hat with
  |list hr e=>intro hov q;apply vIs hov;exact oi ha h2 X₁ S₁ g₁ q hr e
  |dict hr e=>intro hov q;apply vIs hov;exact Uo c ha h2 X₁ S₁ g₁ q hr e
  |inst hr e i=>intro hov q;apply vIs hov;exact UD c ha h2 X₁ S₁ g₁ q hr e i
 ·obtain ⟨f,first,hg,hh⟩:=h
  exact k f first hg hh
end
section
variable {P:Pm}{A:Around}{K:Frag}{C:jt}
variable {s s₁:Shared}{st st₁:St}{E:Value->Shared->Prop}
theorem Xq{e:Expr}{G:Expr->Prop}(hc:uq e (fun a b _=>a.isEmpty&&b.isEmpty)=true)(k:∀ p,G (.Dict [] [] p)):G e:=by
 apply GU hc;intro x y _ z
 refine aE2 z fun z1 z2=>?_
 apply gQ (l:=x) z1
 apply gQ (l:=y) z2
 exact k _
theorem ge{o:MObj}{Q:MV->St->Prop}(S:Sim P st s.heap)(hw:jq st o Q)(r:Rep P (s.heap.push (yy #[] 0)) s.heap.objs.size o)(hi:o.dct=none):Post P st s Q (.ref s.heap.objs.size) { s with heap:=s.heap.push (yy #[] 0) } :=
 ⟨_,_,hw _ (S.st_none (j3 _)),rfl,S.alloc (j3 _) (jf _ _) r hi,Go.alloc (tk:=s.toks) (j3 _) (jf _ _)⟩
theorem XC(c:Ctx K C A):EOk C A .idict0:=by
 intro kd e hc
 apply Xq hc;intro p
 intro P env ρ st s Q X S hw
 exact wpAny_Dict_empty (ge S hw ⟨[],Heap.DictOf.new s.heap,⟨Nat.zero_le _,c.sys.ne (P:=P) S.keep (Nat.le_refl _)⟩,rfl⟩ rfl)
theorem vM(c:Ctx K C A):EOk C A .tdict0:=by
 intro kd e hc
 apply Xq hc;intro p
 intro P env ρ st s Q X S hw
 exact wpAny_Dict_empty (ge S hw ⟨[],Heap.DictOfH.new s.heap,⟨Nat.zero_le _,c.sys.ne (P:=P) S.keep (Nat.le_refl _)⟩,rfl⟩ rfl)
theorem jaW{P P':Pm}{h h':Heap}{t:List String}:∀ {vs:List Value},Vs P h (t.map .str) vs->Vs P' h' (t.map .str) vs:=by
 induction t with
 |nil=>exact fun q=>q
 |cons x t ih=>exact fun ⟨v,r,e,hv,hr⟩=>⟨v,r,e,hv,ih hr⟩
theorem ZH(c:Ctx K C A){i:ME}(hi:EOk C A i):EOk C A (.optab i):=by
 intro kd e hc
 apply zx hc;intro t x _ z
 refine aE3 z fun hg hn h1=>?_
 apply Yt (e:=t) hg;intro n _ hg
 obtain ⟨e,hk,hd⟩:=Xh hg
 rw [e] at hk hd ⊢
 intro P env ρ st s Q X S hw
 obtain ⟨D,kvs,g,hD,hval⟩:=c.F.opt
 refine Subscript_ (Yc g X S (beq_iff_eq.mp hk) hd (jz (hi kd _ h1 P env ρ st s _ X S hw) fun b vb st₂ s₂ q hvb S₂ g₂=>?_))
 obtain ⟨x,t,e,ht,k⟩:=q
 rw [e] at hvb
 apply jab hvb;intro tk
 obtain ⟨a,us,hv,hT,hus,htl⟩:=hval x t ht
 have hD':s₂.heap.DictOf (strKind prog w) D kvs:=hD.keep S₂.keep
 obtain ⟨o,ho,hc',n,hn'⟩:=hT
 refine tail_any hD'.typeIs slot_dict_getitem.lookup (wpAny_getItem_of (knd:=strKind prog w) (k:=Str.ofString x) (strKind_is prog w _ _) hD'.mapOf hv ?_) (xK hn _ _)
 exact .go g₂ (.tok S₂ k ⟨a,us,rfl,⟨fun d=>no (P.off a d) ho,by rw [List.length_map];exact Nat.le_trans (Nat.le_of_lt htl) (by decide)⟩,⟨o,S₂.keep _ _ ho,hc',n,hn'⟩,jaW hus⟩)
inductive jdp (P:Pm) (st:St) (h:Heap) (Q:List MV->List (Nat×MObj)->Prop) (v:Value):Prop
 | mk (a:Addr) (k:Bool) (xs:List MV) (src:List (Nat×MObj)) (e:v=.ref a) (q:SeqSrc P h a k xs src) (t:ji src st) (w:Q xs src)
theorem Zo{mv:MV}{v:Value}{Q:List MV->List (Nat×MObj)->Prop}(hv:V P s.heap mv v)(h:Yk mv st Q):jdp P st s.heap Q v:=by
 change ItemsR st Q mv at h
 revert hv
 induction h with
 |ref h1 q=>intro hv;apply vIs hv;exact ⟨_,false,_,_,rfl,.l,jh h1,q⟩
 |tup q=>rintro ⟨a,ys,e,hd,ht,hv⟩;exact ⟨a,true,_,_,e,.t ys hd ht hv,jH,q⟩
 |cl q=>rintro ⟨a,vs,e,hl,hi,hbase,hn⟩;exact ⟨a,false,_,_,e,.c vs _ hbase hi hn,jH,q⟩
theorem uw{mv:MV}{v:Value}{Q:List MV->List (Nat×MObj)->Prop}(hv:V P s.heap mv v)(h:gC mv st Q):jdp P st s.heap Q v:=by
 refine Zo hv ?_
 change SeqR st Q mv at h
 show ItemsR st Q mv
 induction h with
 |ref h k=>exact .ref h k
 |tup k=>exact .tup k
theorem jdV{x:ME}(hx:EOk C A x):IOk C A (.of x):=by
 intro kd e hc
 refine aE2 hc fun hc _=>?_
 intro P env ρ st s Q X S hw
 refine jz (hx kd _ hc P env ρ st s _ X S hw) fun a va st₁ s₁ q hva S₁ g₁=>?_
 obtain ⟨a,k,xs,src,e,hq,hst,q⟩:=Zo hva q
 rw [e]
 exact ⟨xs,src,st₁,s₁,q,hst,S₁,g₁,⟨_,_,rfl⟩,fun _ _ e=>e,.seq hq⟩
theorem Uv(c:Ctx K C A){x:ME}(hx:EOk C A x):IOk C A (.range x):=by
 intro kd e hc
 apply Js hc;intro _ as _ hk hd z
 apply ZT (l:=as) z;intro a h1
 intro P env ρ st s Q X S hw
 refine Y1 (Ji h1 [] env) c (by simp) X S hk hd (hx kd _ h1 P env ρ st s _ X S hw) fun v s₁ p=>?_
 obtain ⟨mv,st₁,⟨n,e,hn,q⟩,hv,S₁,g₁⟩:=p
 rw [e] at hv
 apply yW hv;intro t
 exact call_range_1 ⟨_,_,st₁,s₁,q,jH,S₁,g₁,⟨_,_,rfl⟩,jf _ _,.range (IsRange.new ..) hn⟩
theorem V7(h:Heap){a:Addr}(ha:h.objs.size≤a):h.get? a=none:=by
 cases z:h.get? a with
 |none=>rfl
 |some o=>exact absurd (Heap.lt_size z) (Nat.not_lt.mpr ha)
theorem Ox(c:Ctx K C A){x:ME}(hx:EOk C A x):IOk C A (.enum x):=by
 intro kd e hc
 apply Js hc;intro _ as _ hk hd z
 apply ZT (l:=as) z;intro a h1
 intro P env ρ st s Q X S hw
 refine Y1 (Ji h1 [] env) c (by simp) X S hk hd (hx kd _ h1 P env ρ st s _ X S hw) fun v s₁ p=>?_
 obtain ⟨mv,st₁,⟨r,xs,e,hr,q⟩,hv,S₁,g₁⟩:=p
 rw [e] at hv
 apply vIs hv
 obtain ⟨us,n,_,_,_,_,L⟩:=S₁.lst hr
 exact call_enumerate_list L fun h' hE hI hsz hkp=>⟨_,_,st₁,s₁,q,jh hr,S₁,g₁,⟨h',s₁.toks,rfl⟩,hkp,.enum hE hI (V7 _ (Nat.le_succ _)) (j3 _) (Nat.succ_ne_self _)⟩
inductive jfH (P:Pm) (st:St) (s:Shared) (Q:List MV->List (Nat×MObj)->St->Prop) (v u:Value) (s₂:Shared):Prop
 | mk (a b:Addr) (k1 k2:Bool) (xs ys:List MV) (src1 src2:List (Nat×MObj)) (st₂:St) (e:v=.ref a) (e':u=.ref b) (q1:SeqSrc P s₂.heap a k1 xs src1) (q2:SeqSrc P s₂.heap b k2 ys src2) (t1:ji src1 st₂) (t2:ji src2 st₂) (S:Sim P st₂ s₂.heap) (g:Go st s st₂ s₂) (q:Q (yP xs ys) (src1++src2) st₂)
theorem jbw(c:Ctx K C A){x y:ME}(hx:EOk C A x)(hy:EOk C A y):IOk C A (.zip x y):=by
 intro kd e hc
 apply Js hc;intro _ as _ hk hd z
 apply jeo (l:=as) z;intro a b z
 refine aE2 z fun h1 h2=>?_
 intro P env ρ st s Q X S hw
 refine Gu (Q'':=jfH P st s Q) (by rw [Ji h1,Ji h2];rfl) c (by simp) X S hk hd (hx kd _ h1 P env ρ st s _ X S hw) (fun v s₁ p=>?_) fun v u s₂ p=>?_
 ·obtain ⟨mv,st₁,q,hv,S₁,g₁⟩:=p
  refine jz (hy kd _ h2 P env ρ st₁ s₁ _ (X.go S g₁) S₁ q) fun b vb st₂ s₂ q hvb S₂ g₂=>?_
  obtain ⟨a,k1,xs,src1,e1,hq1,hs1,q⟩:=uw (hv.mono (S₁.mono g₂)) q
  obtain ⟨b,k2,ys,src2,e2,hq2,hs2,q⟩:=uw hvb q
  exact ⟨a,b,k1,k2,xs,ys,src1,src2,st₂,e1,e2,hq1,hq2,hs1,hs2,S₂,g₁.trans g₂,q⟩
 ·obtain ⟨a,b,k1,k2,xs,ys,src1,src2,st₂,e1,e2,hq1,hq2,hs1,hs2,S₂,g,q⟩:=p
  rw [e1,e2]
  obtain ⟨_,us,n,o,hS,_,_,e1,_⟩:=hq1.at_ S₂ hs1
  obtain ⟨_,us',n',o',hS',_,_,e2,_⟩:=hq2.at_ S₂ hs2
  refine ZU hS hS' fun h' hz hkp=>?_
  refine ⟨_,_,st₂,s₂,q,fun p hp=>(List.mem_append.mp hp).elim (hs1 p) (hs2 p),S₂,g,⟨h',s₂.toks,rfl⟩,hkp,.zip hz (gU (Heap.lt_size e1) (Heap.lt_size e2)) (fun a h=>V7 _ ?_) ⟨hq1,hq2⟩⟩
  rcases h with h | h | h | h | h<;>(rw [h];first | exact Nat.le_refl _ | exact Nat.le_add_right ..)
end
section
variable {P:Pm}{A:Around}{s:Shared}{st:St}{E:Value->Shared->Prop}
theorem om{us:Array Value}{i n:Nat}(h:i<us.size):us[i]::((us.toList.drop (i+1)).take n)=(us.toList.drop i).take (n+1):=by
 rw [List.drop_eq_getElem_cons (i:=i) (by rw [Array.length_toList];exact h),Array.getElem_toList,List.take_succ_cons]
theorem OM{k:Bool}{it a:Addr}{us:Array Value}(hne:a≠it)(n:Nat):∀ (i:Nat) (s:Shared) (Q:List Value->Shared->Prop),SIt k s.heap it a i->SSrc k s.heap a us->i+n≤us.size ->
  (∀ h',SIt k h' it a (i+n)->Heap.SameBut it s.heap h'->Q ((us.toList.drop i).take n) { s with heap:=h' })->wpAny (model prog w) A (draw (.ref it) n) Q E s:=by
 induction n with
 |zero=>exact fun i s Q hit _ _ hQ=>wpAny_pure (hQ s.heap hit (Heap.SameBut.refl ..))
 |succ n ih =>
  intro i s Q hit ht hle hQ
  have hlt:i<us.size:=Nat.lt_of_lt_of_le (Nat.lt_add_of_pos_right (Nat.succ_pos n)) hle
  show wpAny _ _ (pyNext (.ref it)>>=_) Q E s
  refine wpAny_bind (xi hit ht (x:=us[i]) (Array.getElem?_eq_getElem hlt) fun h₁ hit₁ hs₁=>?_)
  refine wpAny_bind (wpAny_holding (ih (i+1) _ _ hit₁ (ht.extBut hs₁.extBut hne) (Nat.succ_add_eq_add_succ i n▸hle) fun h₂ hit₂ hs₂=>wpAny_pure ?_))
  rw [om hlt]
  exact hQ h₂ (Nat.succ_add_eq_add_succ i n▸hit₂) (hs₁.trans hs₂)
theorem Xo{k:Bool}{a:Addr}{us:Array Value}{Q:List Value->Shared->Prop}(hh:A.handled=none)(ht:SSrc k s.heap a us)(hQ:∀ h',(∀ b o,s.heap.get? b=some o->h'.get? b=some o)->Q us.toList { s with heap:=h' }) :
  wpAny (model prog w) A (unpackItems (.ref a) us.size none) Q E s:=by
 have hlt:a≠s.heap.objs.size:=ht.there.elim fun _ ho=>Nat.ne_of_lt (Heap.lt_size ho)
 unfold unpackItems
 refine wpAny_bind ?_
 unfold notIterableAtAll
 have go:wpAny (model prog w) A (specialOf (.ref a) "__iter__") (fun r s'=>r.isSome=true/\s'=s) E s:=by
  cases k
  ·exact wpAny_specialOf (T:="list") (ht.elim fun o z=>⟨o,z.1,z.2.1⟩) F.slot_list_iter.lookup ⟨rfl,rfl⟩
  ·exact wpAny_specialOf (T:="tuple") (ht.elim fun o z=>⟨o,z.1,z.2.1⟩) F.slot_tuple_iter.lookup ⟨rfl,rfl⟩
 refine wpAny_bind (wpAny_mono go (fun r s' hr=>?_) fun _ _ e=>e)
 obtain ⟨hr,rfl⟩:=hr
 rw [if_pos hr]
 refine wpAny_pure ?_
 simp only [Bool.false_eq_true,if_false]
 refine wpAny_bind (wpAny_holding (JZ ht ?_))
 have kp:=jf s'.heap (xf k a)
 have e:(us.toList.drop 0).take us.size=us.toList:=List.take_of_length_le (Nat.le_of_eq Array.length_toList)
 refine wpAny_bind (wpAny_holding (OM (k:=k) hlt us.size 0 { s' with heap:=s'.heap.push (xf k a) } _ sit_new (ht.push _) (Nat.le_of_eq (Nat.zero_add _)) fun h₁ hit₁ hs₁=>?_))
 rw [e]
 rw [if_neg (by simp)]
 refine wpAny_bind (wpAny_holding (zt (i:=0+us.size) hh hit₁ ((ht.push _).extBut hs₁.extBut hlt) (by simp) fun h₂ hx₂=>?_))
 rw [if_neg (by simp)]
 exact wpAny_pure (hQ h₂ fun b o e=>hx₂ b o (Nat.ne_of_lt (Heap.lt_size e)) (hs₁.extBut b o (Nat.ne_of_lt (Heap.lt_size e)) (kp _ _ e)))
theorem qO{mv:MV}{v:Value}{n:Nat}{K:List MV->Prop}{Q:List Value->Shared->Prop}(hh:A.handled=none)(S:Sim P st s.heap)(hv:V P s.heap mv v)(h:J2 mv n st K)
  (hQ:∀ mvs vs h',K mvs->mvs.length=n->Vs P h' mvs vs->(∀ b o,s.heap.get? b=some o->h'.get? b=some o)->Q vs { s with heap:=h' }):wpAny (model prog w) A (unpackItems v n none) Q E s:=by
 change UnpR n st K mv at h
 revert hv
 induction h with
 |tup hl k =>
  rintro ⟨a,ys,e,_,ht,hv⟩
  apply vIs e
  rw [← hl,hv.length.trans Array.length_toList]
  exact Xo (k:=true) hh ht fun h' hk=>hQ _ _ h' k hl (hv.mono (S.monoK hk)) hk
 |ref h1 hl k =>
  intro hv
  apply vIs hv
  obtain ⟨us,m,e1,_,hv,z,L⟩:=S.lst h1
  rw [← hl,z]
  exact Xo (k:=false) hh L fun h' hk=>hQ _ _ h' k hl (hv.mono (S.monoK hk)) hk
variable {kd:Kd}{env:Env}{ρ:ja}
theorem EnvOk.dead_there(X:EnvOk P kd env ρ s.heap)(S:Sim P st s.heap):∀ a,Fm env a->∃ o,s.heap.get? a=some o:=fun a d=>(S.dead a (X.dead a d)).1
def Qt(q:Str->Bool)(x:String)(e:Expr):Prop:=∃ p,e=.Name (Str.ofString x) p/\q (Str.ofString x)=true
theorem vD{q:Str->Bool}{x:String}{e:Expr}(h:GE q x e=true):Qt q x e:=by
 apply Yt h;intro id p z
 refine aE2 z fun e k=>?_
 exact ⟨p,by rw [beq_iff_eq.mp e],k⟩
theorem Ok{q:Str->Bool}{xs:List String}:∀ {es:List Expr},uE q xs es=true->Pw (Qt q) xs es:=by
 induction xs with
 |nil=>exact fun h=>List.isEmpty_iff.mp h
 |cons x xs ih =>
  intro es h
  cases es with
  |nil=>cases h
  |cons e es=>exact aE2 h fun h1 h2=>.cons (vD h1) (ih h2)
inductive Bnd (q:Str->Bool):PT->Expr->Prop
 | one {x:String}{p:Pos} (h:q (Str.ofString x)=true):Bnd q (.one x) (.Name (Str.ofString x) p)
 | many {xs:List String}{es:List Expr}{k:Nat}{p:Pos} (h:Pw (Qt q) xs es):Bnd q (.many xs) (.Tuple es k p)
theorem Gp{q:Str->Bool}{t:PT}{e:Expr}(h:XS q t e=true):Bnd q t e:=by
 cases t with
 |one x=>obtain ⟨p,e,k⟩:=vD h;rw [e];exact .one k
 |many xs=>apply YY h;intro es k p z;exact .many (Ok z)
def Z3(A:Around)(E:Value->Shared->Prop)(P:Pm)(kd:Kd)(env:Env)(st:St)(q:Str->Bool)(W:Nat->Prop):Prop :=
 ∀ {x:String}{v:MV}{u:Value}{ρ:ja}{s:Shared}{Q:Unit->Shared->Prop},q (Str.ofString x)=true->EnvOk P kd env ρ s.heap->Sim P st s.heap->V P s.heap v u ->
  (∀ h' tk,EnvOk P kd env (yf ρ x v) h'->Sim P st h'->Keeps W s.heap h'->Q () { s with heap:=h',toks:=tk })->wpAny (model prog w) A (storeName env (Str.ofString x) u) Q E s
theorem vr:Z3 A E P kd env st (fun n=>kd n==some .local||kd n==some .cell) (Fm env):=fun hk X S hv h=>US X S (jfw hk) hv h
theorem Keeps.mono{W:Nat->Prop}{h h':Heap}(k:Keeps W h h')(d:∀ b,W b->P.dead b):Mono P h h':=Mono.atDead fun b o nd e=>k b o (fun q=>nd (d b q)) e
def OV(A:Around)(env:Env)(q:Str->Bool)(x:String)(f:Value->Sem Unit):Prop:=q (Str.ofString x)=true/\∀ {E:Value->Shared->Prop}{v:Value}{Q:Unit->Shared->Prop}{s:Shared},wpAny (model prog w) A (storeName env (Str.ofString x) v) Q E s->wpAny (model prog w) A (f v) Q E s
section
variable {q:Str->Bool}{W:Nat->Prop} (so:∀ {E:Value->Shared->Prop},Z3 A E P kd env st q W) (hW:∀ b,W b->P.dead b)
include so hW
theorem Vd{xs:List String}{fs:List (Value->Sem Unit)}(hc:Pw (OV A env q) xs fs):∀ {mvs:List MV}{vs:List Value}{ρ:ja}{s:Shared}{Q:Unit->Shared->Prop},EnvOk P kd env ρ s.heap->Sim P st s.heap->Vs P s.heap mvs vs->mvs.length=xs.length ->
  (∀ h' tk,EnvOk P kd env (y5 ρ xs mvs) h'->Sim P st h'->Keeps W s.heap h'->Q () { s with heap:=h',toks:=tk })->wpAny (model prog w) A (assignInOrder fs vs) Q E s:=by
 refine Pw.ind (G:=fun xs fs=>∀ {mvs:List MV}{vs:List Value}{ρ:ja}{s:Shared}{Q:Unit->Shared->Prop},EnvOk P kd env ρ s.heap->Sim P st s.heap->Vs P s.heap mvs vs->mvs.length=xs.length ->
  (∀ h' tk,EnvOk P kd env (y5 ρ xs mvs) h'->Sim P st h'->Keeps W s.heap h'->Q () { s with heap:=h',toks:=tk })->wpAny (model prog w) A (assignInOrder fs vs) Q E s) ?_ ?_ hc
 ·intro mvs vs ρ s Q X S hv hm h
  cases mvs with
  |nil=>rw [show vs=[] from hv];exact wpAny_pure (h s.heap s.toks X S fun _ _ _ e=>e)
  |cons m mvs=>cases hm
 ·intro x f xs fs ne _ ih mvs vs ρ s Q X S hv hm h
  cases mvs with
  |nil=>cases hm
  |cons m mvs =>
   obtain ⟨v,r,e1,hv1,hv2⟩:=hv
   rw [e1]
   show wpAny _ _ (holding r (f v)>>=fun _=>assignInOrder fs r) _ _ _
   exact wpAny_bind (wpAny_holding (ne.2 (so ne.1 X S hv1 fun h' tk X' S' kp=>ih X' S' (hv2.mono (kp.mono hW)) (Nat.succ.inj hm) fun h'' tk' X'' S'' kp'=>h h'' tk' X'' S'' fun b o nb e=>kp' b o nb (kp b o nb e))))
theorem GR{t:PT}{e:Expr}{mv:MV}{v:Value}{K:ja->Prop}{Q:Unit->Shared->Prop}(hh:A.handled=none)(hc:XS q t e=true)(X:EnvOk P kd env ρ s.heap)(S:Sim P st s.heap)(hv:V P s.heap mv v)(hb:yv t mv ρ st K)
  (h:∀ ρ' h' tk,K ρ'->EnvOk P kd env ρ' h'->Sim P st h'->Keeps W s.heap h'->Q () { s with heap:=h',toks:=tk }):wpAny (model prog w) A (assign e env v) Q E s:=by
 have hn:=Gp hc
 clear hc
 revert hb
 induction hn with
 |one k=>exact fun hb=>wpAny_assign_Name (so k X S hv fun h' tk X' S' kp=>h _ h' tk hb X' S' kp)
 | @many xs es k p hc =>
  intro hb
  have i:=Pw.ind (R:=Qt q) (G:=fun (xs:List String) (es:List Expr)=>((assignEach es env).length=xs.length/\(assignEach es env).findIdx? (·.1)=none)/\Pw (OV A env q) xs ((assignEach es env).map (·.2))) ⟨⟨rfl,rfl⟩,.nil⟩ (fun x e xs es ne _ ih=>by
   obtain ⟨p,e2,k⟩:=ne
   rw [e2]
   exact ⟨⟨congrArg Nat.succ ih.1.1,by show List.findIdx? _ ((false,assign (.Name (Str.ofString x) p) env)::assignEach es env)=none;rw [List.findIdx?_cons,ih.1.2];rfl⟩,.cons ⟨k,fun h=>wpAny_assign_Name h⟩ ih.2⟩) hc
  rw [arm_assign_Tuple]
  refine wpAny_bind (wpAny_standAt ?_)
  unfold unpack
  rw [i.1.1,i.1.2]
  refine wpAny_bind (wpAny_holding (qO hh S hv hb fun mvs vs h' k hm hvs kp=>?_))
  exact Vd so hW i.2 (X.keeps (S.monoK kp) fun a o _ e=>kp a o e) (S.keeps kp) hvs hm fun h'' tk' X'' S'' kp'=>h _ h'' tk' k X'' S'' fun b o nb e=>kp' b o nb (kp b o e)
end
theorem Gm{t:PT}{e:Expr}{mv:MV}{v:Value}{K:ja->Prop}{Q:Unit->Shared->Prop}(hh:A.handled=none)(hc:GM kd t e=true)(X:EnvOk P kd env ρ s.heap)(S:Sim P st s.heap)(hv:V P s.heap mv v)(hb:yv t mv ρ st K)
  (h:∀ ρ' h' tk,K ρ'->EnvOk P kd env ρ' h'->Sim P st h'->Keeps (Fm env) s.heap h'->Q () { s with heap:=h',toks:=tk }):wpAny (model prog w) A (assign e env v) Q E s :=
 GR vr X.dead hh hc X S hv hb h
end
section
variable {P:Pm}{A:Around}{s:Shared}{st:St}{E:Value->Shared->Prop}
def jaH(A:Around)(elt target:Expr)(ifs:List Expr)(it acc:Value)(env:Env)(K:Shared->Prop)(v:Value)(s:Shared):Prop :=
 wpAny (model prog w) A (letOwnedTupleGo target it v) (fun _ s₁=>wpAny (model prog w) A (assign target env v) (fun _ s₂ =>
  wpAny (model prog w) A (forIn ifs true fun c r=>if r=true then do let ok ← isTrue c env (eval c env);pure (ForInStep.yield ok) else pure (ForInStep.yield r)) (fun ok s₃ =>
   if ok=true then wpAny (model prog w) A (eval elt env) (fun x s₄=>wpAny (model prog w) A (call (.builtin "list.append") [acc,x]) (fun _ s₅=>K s₅) NoE s₄) NoE s₃ else K s₃) NoE s₂) NoE s₁) NoE s
theorem xC{R:Result->Shared->Prop}{elt target iter:Expr}{ifs:List Expr}{scope:Scope}{pos:Pos}{it acc:Value}{env:Env}(I:Nat->Shared->Prop)
  (turn:∀ n s,I n s->∀ Q:Option Value->Shared->Prop,(∀ s₁,R (.ok .next) s₁->Q none s₁)->(∀ v s₁,jaH A elt target ifs it acc env (fun s=>∃ m,m<n/\I m s) v s₁->Q (some v) s₁)->wpAny (model prog w) A (pyNext it) Q NoE s)
  (n:Nat) (h:I n s) :
  codeAny (model prog w) A (.compLoop (.ListComp elt [⟨target,iter,ifs,0⟩] scope pos) 0 it acc env) R s:=by
 refine codeAny_loop rfl I (fun n s hI=>?_) n h
 show wpAny _ A ((compTurn (.ListComp elt [⟨target,iter,ifs,0⟩] scope pos) 0 it acc env).onRaise (fun x=>do noteFrame x env;theTreesLotGoes x)) _ _ s
 refine wpAny_noted ?_
 rw [compTurn_list]
 refine wpAny_bind (wpAny_standAt (wpAny_bind (wpAny_mono (turn n s hI _ (fun s₁ h₁=>?_) fun v s₁ h₁=>?_) (fun _ _ q=>q) fun _ _ e=>e.elim)))
 ·exact wpAny_pure h₁
 ·refine wpAny_bind (wpAny_mono h₁ (fun _ s₁' h₁'=>?_) fun _ _ e=>e.elim)
  refine wpAny_bind (wpAny_mono h₁' (fun _ s₂ h₂=>wpAny_bind (wpAny_mono h₂ (fun ok s₃ h₃=>?_) fun _ _ e=>e.elim)) fun _ _ e=>e.elim)
  cases ok with
  |false=>exact wpAny_pure ⟨rfl,h₃⟩
  |true=>exact wpAny_bind (wpAny_bind (wpAny_mono h₃ (fun x s₄ h₄=>wpAny_bind (wpAny_mono h₄ (fun _ s₅ h₅=>wpAny_pure (wpAny_pure ⟨rfl,h₅⟩)) fun _ _ e=>e.elim)) fun _ _ e=>e.elim))
theorem Sim.adopt{h:Heap}{D:Nat}{ys:List MV}{us:Array Value}{n:Nat}(S:Sim P st h)(hn:st D=none)(hb:h₀.get? D=none)(hd:¬ P.dead D)(e:h.get? D=some (jL us n))(hl:ys.length≤jb)(hv:Vs P h ys us.toList) :
  Sim P (st.put D (.list ys)) h:=by
 have old:∀ b o,st b=some o->st.put D (.list ys) b=some o:=fun b o z=>(ye fun y=>no (y▸hn) z).trans z
 refine ⟨fun b o hb'=>yG hb' (fun q q'=>by rw [q,q'];exact ⟨us,n,e,hl,hv⟩) fun _ z=>S.rep b o z,fun b o d hb' hd'=>yG hb' (fun q q'=>by rw [q'] at hd';cases hd') fun _ z=>old _ _ (S.link b o d z hd'),fun b o hb'=>yG hb' (fun q _=>q▸hb) fun _ z=>S.below b o z,S.keep,fun b db=>⟨(S.dead b db).1,(ye fun y:b=D=>hd (y▸db)).trans (S.dead b db).2⟩⟩
noncomputable def yA(cells:List (Str×Addr)):List (Str×NameKind)->List (Str×Addr)->List (Str×Addr)
 |[],acc=>acc
 | (n,k)::r,acc=>if k==.free then yA cells r ((n,(cells.lookup n).getD 0)::acc) else yA cells r acc
theorem GC{env:Env}(f:Str×NameKind->List (Str×Addr)->Sem (ForInStep (List (Str×Addr))))(hf:∀ n k cs,f (n,k) cs=if k==.free then (do let a ← cellOf env n;pure (.yield ((n,a)::cs))) else pure (.yield cs))
  (names:List (Str×NameKind)):∀ (acc:List (Str×Addr)),(∀ x∈names,x.2=.free->∃ c,env.cells.lookup x.1=some c)->(forIn names acc f:Sem (List (Str×Addr)))=pure (yA env.cells names acc):=by
 induction names with
 |nil=>exact fun _ _=>rfl
 |cons p r ih =>
  obtain ⟨n,k⟩:=p
  intro acc h
  have ih:=fun acc=>ih acc fun x hx=>h x (List.mem_cons_of_mem _ hx)
  rw [List.forIn_cons,hf]
  unfold yA
  by_cases hk:(k==NameKind.free)=true
  ·obtain ⟨c,hc⟩:=h (n,k) (List.mem_cons_self ..) (beq_iff_eq.mp hk)
   have e:cellOf env n=pure c:=by unfold cellOf;rw [hc]
   rw [if_pos hk,if_pos hk,e]
   show (forIn r ((n,c)::acc) f:Sem _)=_
   rw [ih,show (env.cells.lookup n).getD 0=c by rw [show env.cells.lookup n=some c from hc];rfl]
  ·rw [if_neg hk,if_neg hk]
   exact ih acc
theorem ZN{n x:Str}{c:Addr}{l:List (Str×Addr)}:List.lookup x ((n,c)::l)=if x=n then some c else l.lookup x:=by
 rw [List.lookup_cons]
 by_cases h:x=n
 ·rw [if_pos h,beq_iff_eq.mpr h]
 ·rw [if_neg h,beq_eq_false_iff_ne.mpr h]
theorem qP{cells:List (Str×Addr)}{n:Str}{k:NameKind}{r:List (Str×NameKind)}{acc:List (Str×Addr)}{G:List (Str×Addr)->Prop}(h1:k=.free->G (yA cells r ((n,(cells.lookup n).getD 0)::acc)))(h2:k≠.free->G (yA cells r acc)):G (yA cells ((n,k)::r) acc):=by
 unfold yA
 by_cases hk:(k==NameKind.free)=true
 ·rw [if_pos hk];exact h1 (beq_iff_eq.mp hk)
 ·rw [if_neg hk];exact h2 fun e=>hk (beq_iff_eq.mpr e)
theorem Zg{cells:List (Str×Addr)}{names:List (Str×NameKind)}{x:Str}{c:Addr}:∀ {acc:List (Str×Addr)},(∀ x∈names,x.2=.free->∃ c,cells.lookup x.1=some c)->(∀ x c,acc.lookup x=some c->cells.lookup x=some c) ->
  (yA cells names acc).lookup x=some c->cells.lookup x=some c:=by
 induction names with
 |nil=>exact fun _ ha h=>ha x c h
 |cons p r ih =>
  obtain ⟨n,k⟩:=p
  intro acc hn ha
  have hr:=fun x hx=>hn x (List.mem_cons_of_mem _ hx)
  refine qP (G:=fun l=>l.lookup x=some c->cells.lookup x=some c) (fun hk=>ih hr fun y d hy=>?_) fun _=>ih hr ha
  rw [ZN] at hy
  by_cases e:y=n
  ·obtain ⟨c',hc⟩:=hn (n,k) (List.mem_cons_self ..) hk
   rw [if_pos e,show cells.lookup n=some c' from hc] at hy
   rw [e];exact hc.trans hy
  ·rw [if_neg e] at hy;exact ha y d hy
theorem V1{cells:List (Str×Addr)}{x:Str}{names:List (Str×NameKind)}:∀ {acc:List (Str×Addr)},((x,NameKind.free)∈names\/(acc.lookup x).isSome=true)->((yA cells names acc).lookup x).isSome=true:=by
 induction names with
 |nil=>exact fun h=>h.elim (fun h=>nomatch h) id
 |cons p r ih =>
  obtain ⟨n,k⟩:=p
  intro acc h
  refine qP (G:=fun l=>(l.lookup x).isSome=true) (fun hk=>ih ?_) fun hk=>ih (h.imp (fun h=>(List.mem_cons.mp h).elim (fun e=>by cases e;exact absurd rfl hk) id) id)
  rw [ZN]
  by_cases e:x=n
  ·rw [if_pos e];exact .inr rfl
  ·rw [if_neg e];exact h.imp (fun h=>(List.mem_cons.mp h).elim (fun q=>by cases q;exact absurd rfl e) id) id
theorem gL{α:Type}(f:Str->α->α)(l:List (Str×α))(x:Str):(l.map fun p=>(p.1,f p.1 p.2)).lookup x=(l.lookup x).map (f x):=by
 induction l with
 |nil=>rfl
 |cons p r ih =>
  obtain ⟨n,k⟩:=p
  rw [List.map_cons,List.lookup_cons,List.lookup_cons]
  cases h:x==n with
  |true=>rw [beq_iff_eq.mp h];rfl
  |false=>exact ih
noncomputable def Z4(env:Env)(n:Str)(k:NameKind):NameKind:=if (k==.free&&env.scope.kind==.function&&env.kindOf n==some .cell)=true then NameKind.cell else k
theorem XJ{kd:Kd}{env:Env}(hk:∀ x,env.kindOf x=kd x)(hf:env.scope.kind=.function)(sc:Scope)(x:Str):(relabel sc env).names.lookup x=jD kd sc x:=by
 have e:(relabel sc env).names=sc.names.map fun p=>(p.1,Z4 env p.1 p.2):=by
  show sc.names.map _=_
  refine List.map_congr_left fun p _=>?_
  obtain ⟨n,k⟩:=p
  dsimp only
  unfold Z4
  split<;>rfl
 rw [e]
 refine (gL (Z4 env) sc.names x).trans ?_
 unfold jD
 rw [← hk x]
 cases sc.names.lookup x with
 |none=>rfl
 |some k =>
  rw [Option.map_some]
  unfold Z4
  rw [hf]
  cases k
  case free =>
   dsimp only
   by_cases h:env.kindOf x=some .cell
   ·rw [if_pos h,if_pos (by rw [h];rfl)]
   ·rw [if_neg h,if_neg (by intro q;simp at q;exact h q)]
  all_goals rfl
end
section
variable {P:Pm}{A:Around}{s:Shared}{st:St}{E:Value->Shared->Prop}{kd:Kd}{env:Env}{ρ:ja}
theorem Vn(hd:P.dead env.locals):Z3 A E P kd env st (fun n=>kd n==some .local) (· = env.locals):=by
 intro x v u ρ s Q hk X S hv h
 have hk:=beq_iff_eq.mp hk
 obtain ⟨m,hn,q⟩:=X.ns
 refine wpAny_storeName_local ((X.kind _).trans hk) hn (fun h' hn' hs=>?_) (by rw [X.fnk];rfl)
 have k:Keeps (· = env.locals) s.heap h':=fun b o nb e=>hs.extBut b o nb e
 refine h h' _ (X.setL hv (k.mono fun b q=>q▸hd) hk q hn' hs) (S.atDead (fun b o nd e=>k b o (fun q=>nd (q▸hd)) e) fun b hb z=>?_) k
 by_cases hba:b=env.locals
 ·exact hba▸Ns.there hn'
 ·exact z.imp fun o e=>k b o hba e
theorem jca{x:String}{v:MV}{r:ja}{d:ja}(h:∀ f∈d,f.1≠x):yf (d++(x,none)::r) x v=d++(x,some v)::r:=by
 induction d with
 |nil=>exact if_pos rfl
 |cons f d ih =>
  rw [List.cons_append,ym,if_neg (h f (List.mem_cons_self ..)),ih fun g hg=>h g (List.mem_cons_of_mem _ hg)];rfl
theorem Uj{todo:List String}:∀ {d:ja}{vs:List MV},todo.Nodup->(∀ f∈d,f.1∉todo)->vs.length=todo.length->y5 (d++(todo.map (fun x=>(x,none))++ρ)) todo vs=d++(todo.zip (vs.map some)++ρ):=by
 induction todo with
 |nil=>intros;rfl
 |cons x todo ih =>
  intro d vs nd hd hl
  cases vs with
  |nil=>cases hl
  |cons v vs =>
   rw [List.nodup_cons] at nd
   show y5 (yf (d++(x,none)::(todo.map (fun x=>(x,none))++ρ)) x v) todo vs=_
   rw [jca fun f hf e=>hd f hf (e▸List.mem_cons_self ..),List.append_cons,ih nd.2 (fun f hf=>?_) (Nat.succ.inj hl),← List.append_cons]
   ·rfl
   ·rcases List.mem_append.mp hf with hf | hf
    ·exact fun m=>hd f hf (List.mem_cons_of_mem _ m)
    ·rw [List.mem_singleton.mp hf];exact nd.1
theorem jax{t:PT}{mv:MV}{K:ja->Prop}(hnd:(yY t).Nodup)(hb:y0 t mv ρ st K):yv t mv ((yY t).map (fun x=>(x,none))++ρ) st K:=by
 cases t with
 |one x=>show K (if x=x then _ else _);rw [if_pos rfl];exact hb
 |many xs =>
  have key:∀ vs:List MV,vs.length=xs.length->K (xs.zip (vs.map some)++ρ)->K (y5 (xs.map (fun x=>(x,none))++ρ) xs vs):=fun vs hl k=>by
   have e:=Uj (todo:=xs) (ρ:=ρ) (d:=[]) (vs:=vs) hnd (fun _ h=>nomatch h) hl
   rw [List.nil_append,List.nil_append] at e
   rw [e];exact k
  change UnpR _ _ _ _ at hb
  show UnpR _ _ _ _
  cases hb with
  |tup hl k=>exact .tup hl (key _ hl k)
  |ref e hl k=>exact .ref e hl (key _ hl k)
theorem gp{t:PT}{e:Expr}{mv:MV}{v:Value}{K:ja->Prop}{Q:Unit->Shared->Prop}(hh:A.handled=none)(hnd:(yY t).Nodup)(hc:JP kd t e=true)(X:EnvOk P kd env ((yY t).map (fun x=>(x,none))++ρ) s.heap)(S:Sim P st s.heap)(hv:V P s.heap mv v)(hb:y0 t mv ρ st K)
  (h:∀ ρ' h' tk,K ρ'->EnvOk P kd env ρ' h'->Sim P st h'->Keeps (· = env.locals) s.heap h'->Q () { s with heap:=h',toks:=tk }) :
  wpAny (model prog w) A (assign e env v) Q E s :=
 have hd:=X.dead env.locals (.inl rfl)
 GR (Vn hd) (fun b q=>q▸hd) hh hc X S hv (jax hnd hb) h
theorem jej{xs:List String}{y:String}(h:y∈xs):lk (xs.map (fun x=>(x,none))++ρ) y=none:=by
 induction xs with
 |nil=>cases h
 |cons x xs ih =>
  rw [List.map_cons,List.cons_append,Jd]
  by_cases e:x=y
  ·exact if_pos e
  ·rw [if_neg e];exact ih ((List.mem_cons.mp h).resolve_left (Ne.symm e))
theorem jcB{xs:List String}{y:String}(h:y∉xs):lk (xs.map (fun x=>(x,none))++ρ) y=lk ρ y:=by
 induction xs with
 |nil=>rfl
 |cons x xs ih=>rw [List.map_cons,List.cons_append,Jd,if_neg fun e:x=y=>h (e▸List.mem_cons_self ..)];exact ih fun hm=>h (List.mem_cons_of_mem _ hm)
theorem jdz{α β:Type}{R:α->β->Prop}{xs:List α}{es:List β}(q:Pw R xs es):∀ x∈xs,∃ e,R x e :=
 Pw.ind (G:=fun xs _=>∀ x∈xs,∃ e,R x e) (fun _ h=>nomatch h) (fun x e xs _ h _ ih y hy=>(List.mem_cons.mp hy).elim (fun z=>z▸⟨e,h⟩) (ih y)) q
theorem UE{t:PT}{e:Expr}(hc:JP kd t e=true):∀ y∈yY t,kd (Str.ofString y)=some .local:=by
 have hn:=Gp hc
 clear hc
 induction hn with
 |one k=>intro y hy;rw [List.mem_singleton.mp hy];exact beq_iff_eq.mp k
 |many h=>exact fun y hy=>(jdz h y hy).elim fun _ z=>z.elim fun _ z=>beq_iff_eq.mp z.2
theorem zG{sc:Scope}{n:Str}(h:jD kd sc n=some .local):sc.names.lookup n=some .local:=by
 unfold jD at h
 cases e:sc.names.lookup n with
 |none=>rw [e] at h;exact h
 |some k=>cases k<;>rw [e] at h<;>first | exact h | (dsimp only at h;split at h<;>cases h)
theorem Vv{sc:Scope}{n:Str}(hall:∀ x∈sc.names,x.2≠.cell)(h:jD kd sc n=some .cell\/jD kd sc n=some .free):sc.names.lookup n=some .free:=by
 unfold jD at h
 cases e:sc.names.lookup n with
 |none=>rw [e] at h;exact h.elim (fun h=>nomatch h) fun h=>nomatch h
 |some k =>
  cases k with
  |free=>rfl
  |cell=>exact (hall _ (mem_of_lookup e) rfl).elim
  |_=>rw [e] at h;exact h.elim (fun h=>nomatch h) fun h=>nomatch h
structure jhk(kd:Kd)(sc:Scope):Prop where
 fn:sc.kind=.function
 nc:∀ x∈sc.names,x.2≠.cell
 fr:∀ x∈sc.names,x.2=.free->kd x.1=some .cell\/kd x.1=some .free
 lc:∀ x∈sc.names,x.2=.local->sc.names.lookup x.1=some .local
theorem V8{sc:Scope}(h:XZ kd sc=true):jhk kd sc:=by
 refine aE2 h fun h1 h2=>⟨beq_iff_eq.mp h1,fun x hx e=>?_,fun x hx e=>?_,fun x hx e=>?_⟩
 ·refine aE2 (List.all_eq_true.mp h2 x hx) fun h3 _=>?_
  rw [e] at h3;cases h3
 ·refine aE2 (List.all_eq_true.mp h2 x hx) fun _ h4=>?_
  rw [e] at h4;exact jfw h4
 ·refine aE2 (List.all_eq_true.mp h2 x hx) fun h3 _=>aE2 h3 fun _ h4=>?_
  rw [e] at h4;exact beq_iff_eq.mp h4
theorem gK{sc:Scope}{t:PT}(h:Yn sc t=true){y:String}(hy:y≠".0")(e:sc.names.lookup (Str.ofString y)=some .local):y∈yY t:=by
 have:=List.all_eq_true.mp (Jy h).2 _ (mem_of_lookup e)
 simp only [bne_self_eq_false,Bool.false_or,Bool.or_eq_true,beq_iff_eq,List.any_eq_true] at this
 rcases this with e | ⟨z,hz,e⟩
 ·exact absurd (jX e) hy
 ·rw [jX e];exact hz
theorem Gd{sc:Scope}{t:PT}{tgt:Expr}{C:Addr}{h:Heap}(X:EnvOk P kd env ρ h)(hsc:XZ kd sc=true)(hp:Yn sc t=true)(hpt:JP (jD kd sc) t tgt=true)(hC:P.dead C)(hCc:∀ x c,env.cells.lookup x=some c->c≠C)(hn:∃ m,h.Ns C m)
  (hfree:∀ x∈sc.names,x.2=.free->∃ c,env.cells.lookup x.1=some c) :
  EnvOk P (jD kd sc) (compEnvC sc (yA env.cells sc.names []) C env) ((yY t).map (fun x=>(x,none))++ρ) h:=by
 have Z:=V8 hsc
 have hcl:∀ x c,(yA env.cells sc.names []).lookup x=some c->env.cells.lookup x=some c:=fun x c h=>Zg hfree (fun _ _ h=>by simp at h) h
 refine ⟨fun x=>XJ X.kind X.fnk sc x,Z.fn,X.glob,X.built,fun a q=>q.elim (fun e=>e▸hC) fun ⟨x,hx⟩=>X.dead a (.inr ⟨x,hcl _ _ hx⟩),?_,fun x hx=>?_,fun x y c h1 h2=>X.apart x y c (hcl _ _ h1) (hcl _ _ h2)⟩
 ·obtain ⟨m,hn⟩:=hn
  refine ⟨m,hn,fun y v hy hk hl=>?_⟩
  rw [jej (gK hp hy (zG hk))] at hl;cases hl
 ·have hsl:=Vv Z.nc hx
  have hm:=mem_of_lookup hsl
  obtain ⟨c,o,a,b,d,q⟩:=X.cell x (Z.fr _ hm rfl)
  obtain ⟨c',hc'⟩:=Option.isSome_iff_exists.mp (V1 (cells:=env.cells) (acc:=[]) (.inl hm))
  have e:c'=c:=Option.some.inj ((hcl _ _ hc').symm.trans a)
  refine ⟨c,o,e▸hc',hCc _ _ a,d,fun y v hy hl=>?_⟩
  rw [jcB fun h=>by cases (hy▸hsl).symm.trans (zG (UE hpt y h))] at hl
  exact q y v hy hl
end
def VP(C:jt)(elt:ME)(c:Option ME)(ρ':ja)(st₂:St)(K':Option MV->St->Prop):Prop:=match c with
 |some c=>wpE C c ρ' st₂ fun bv st₃=>∃ b,bv=.bool b/\ifb b (wpE C elt ρ' st₃ fun v st₄=>K' (some v) st₄) (K' Option.none st₃)
 |Option.none=>wpE C elt ρ' st₂ fun v st₃=>K' (some v) st₃
def zN(C:jt)(elt:ME)(t:PT)(c:Option ME)(ρ:ja):MV->St->(Option MV->St->Prop)->Prop:=fun x st₂ K'=>y0 t x ρ st₂ fun ρ'=>VP C elt c ρ' st₂ K'
theorem VN{C:jt}{elt:ME}{t:PT}{it:MI}{c:Option ME}{ρ:ja}{st:St}{K:MV->St->Prop}(h:wpE C (.comp elt t it c) ρ st K) :
  wpI C it ρ st fun xs src st₁=>YB src (zN C elt t c ρ) xs [] st₁ fun ys st₅=>∀ a,st₅ a=Option.none->ys.length<jb/\K (.ref a) (st₅.put a (.list ys)):=by
 cases c<;>exact h
def uG(one:Bool)(tgt:Expr):Prop:=(∃ x p,tgt=.Name x p/\one=true)\/∃ es k p,tgt=.Tuple es k p
section
variable {P:Pm}{A:Around}{K:Frag}{C:jt}
variable {s:Shared}{st:St}{E:Value->Shared->Prop}{kd:Kd}{env:Env}{ρ:ja}
theorem up{α:Type}{t:Sem α}{Q:α->Shared->Prop}{E:Value->Shared->Prop}(h:wpAny (model prog w) A t Q NoE s):wpAny (model prog w) A t Q E s:=wpAny_mono h (fun _ _ q=>q) fun _ _ e=>e.elim
theorem o9{one:Bool}{own:Nat->Prop}{pin:List Nat}{src:List (Nat×MObj)}{it:Addr}{xs:List MV}{At:Nat->Heap->Prop}{Mid:Nat->Value->Heap->Prop}{i:Nat}{v:Value}{tgt:Expr}{Q:Unit->Shared->Prop}
  (I:ItOk A P one own pin src it xs At Mid) (ht:uG one tgt) (hm:Mid i v s.heap) (h:∀ h',At i h'->But own s.heap h'->Q () { s with heap:=h' }) :
  wpAny (model prog w) A (letOwnedTupleGo tgt (.ref it) v) Q E s:=by
 rcases ht with ⟨x,p,e,h1⟩ | ⟨es,k,p,e⟩
 ·rw [e];exact wpAny_pure (h s.heap (I.skip h1 _ _ _ hm) fun _ _ _ e=>e)
 ·rw [e];exact I.go E i v s Q es k p hm h
theorem QI{q:Str->Bool}{t:PT}{it:MI}{tgt:Expr}(hp:qb t it=true)(hc:XS q t tgt=true):uG (VI it).one tgt:=by
 have hn:=Gp hc
 clear hc
 revert hp
 induction hn with
 |one h =>
  intro hp
  refine .inl ⟨_,_,rfl,?_⟩
  cases it with
  |of e=>rfl
  |range e=>rfl
  |enum e=>cases hp
  |zip a b=>cases hp
 |many h=>intro _;exact .inr ⟨_,_,_,rfl⟩
theorem Zw{xs:List MV}{i:Nat}{x:MV}(h:xs[i]? = some x):xs.drop i=x::xs.drop (i+1):=by
 obtain ⟨hi,e⟩:=List.getElem?_eq_some_iff.mp h
 rw [← e];exact List.drop_eq_getElem_cons hi
theorem ZD{xs:List MV}{i:Nat}(h:xs[i]? = none):xs.drop i=[]:=List.drop_eq_nil_of_le (List.getElem?_eq_none_iff.mp h)
theorem EnvOk.keep{W:Nat->Prop}{h h':Heap}(X:EnvOk P kd env ρ h)(k:Keeps W h h')(d:∀ b,W b->P.dead b)(n:∀ a,Fm env a->¬ W a):EnvOk P kd env ρ h':=X.map (k.mono d) .refl (fun a o f e=>k a o (n a f) e) X.dead
theorem Sim.keepW{W:Nat->Prop}{h h':Heap}(S:Sim P st h)(k:Keeps W h h')(d:∀ b,W b->P.dead b)(al:∀ b,W b->∃ o,h'.get? b=some o):Sim P st h' :=
 S.atDead (fun b o nd e=>k b o (fun q=>nd (d b q)) e) fun b _ z=>Classical.byCases (al b) fun n=>z.imp fun o e=>k b o n e
theorem Sim.atEnd{P₂:Pm}{W:Nat->Prop}{h h':Heap}(S:Sim P st h)(k:Keeps W h h')(d:∀ b,W b->P.dead b)(l:∀ a,P₂.dead a->P.dead a/\¬ W a):Sim P₂ st h':=by
 have kk:∀ b o,¬ P.dead b->h.get? b=some o->h'.get? b=some o:=fun b o nd e=>k b o (fun q=>nd (d b q)) e
 have nd:∀ b o,st b=some o->¬ P.dead b:=fun b o q d=>no (S.dead b d).2 q
 exact ⟨fun a o e=>(S.rep a o e).map (.atDead kk) (fun b _ _ n q=>n (l b q).1) (fun ob z=>kk _ _ (nd _ _ e) z) fun d hd ob z=>kk _ _ (nd _ _ (S.link a o d e hd)) z,S.link,S.below,fun a o e=>k a o (fun q=>no (P.off a (d a q)) e) (S.keep a o e),fun a q=>⟨(S.dead a (l a q).1).1.imp fun o e=>k a o (l a q).2 e,(S.dead a (l a q).1).2⟩⟩
end
section
variable {P P' P₂:Pm}{A:Around}{K:Frag}{C:jt}{own own':Nat->Prop}{Ca D:Addr}{kd:Kd}{env:Env}{ρ:ja}{ys:List MV}{us:Array Value}{cn:Nat}{st st':St}{h h':Heap}{s s':Shared}
structure zm(P':Pm)(env:Env)(own own':Nat->Prop)(Ca D:Addr):Prop where
 s:∀ a,own a->own' a
 d:∀ a,own' a->P'.dead a
 oC:own' Ca
 oD:own' D
 nC:¬ own Ca
 nD:¬ own D
 ne:Ca≠D
 F:∀ a,Fm env a->¬ own' a
structure CH(P':Pm)(kd:Kd)(env:Env)(ρ:ja)(Ca D:Addr)(ys:List MV)(us:Array Value)(cn:Nat)(st:St)(h:Heap):Prop where
 ns:∃ m,h.Ns Ca m
 d:h.get? D=some (jL us cn)
 v:Vs P' h ys us.toList
 X:EnvOk P' kd env ρ h
 S:Sim P' st h
theorem CH.but{W:Nat->Prop}(x:CH P' kd env ρ Ca D ys us cn st h)(k:Keeps W h h')(hW:∀ b,W b->P'.dead b)(hF:∀ a,Fm env a->¬ W a)(nD:¬ W D)(ns:∃ m,h'.Ns Ca m)(S:Sim P' st h'):CH P' kd env ρ Ca D ys us cn st h' :=
 ⟨ns,k _ _ nD x.d,x.v.mono (k.mono hW),x.X.keep k hW hF,S⟩
theorem CH.step(Ap:zm P' env own own' Ca D)(x:CH P' kd env ρ Ca D ys us cn st h)(k:Keeps own h h')(al:∀ a,own a->∃ o,h'.get? a=some o):CH P' kd env ρ Ca D ys us cn st h' :=
 x.but k (fun b q=>Ap.d b (Ap.s b q)) (fun a f q=>Ap.F a f (Ap.s a q)) Ap.nD (x.ns.imp fun m y=>UG y fun o e=>k _ o Ap.nC e) (x.S.keepW k (fun b q=>Ap.d b (Ap.s b q)) al)
theorem CH.go(Ap:zm P' env own own' Ca D)(x:CH P' kd env ρ Ca D ys us cn st s.heap)(g:Go st s st' s')(S:Sim P' st' s'.heap):CH P' kd env ρ Ca D ys us cn st' s'.heap :=
 have dk:=x.S.dead_keep g
 ⟨x.ns.imp fun m y=>UG y fun o e=>dk _ o (Ap.d _ Ap.oC) e,dk _ _ (Ap.d _ Ap.oD) x.d,x.v.mono (x.S.mono g),x.X.go x.S g,S⟩
theorem CH.app(Ap:zm P' env own own' Ca D)(x:CH P' kd env ρ Ca D ys us cn st h){mv:MV}{u:Value}(hu:V P' h mv u)(k:Keeps (· = D) h h'){cn':Nat}(d:h'.get? D=some (jL (us.push u) cn')):CH P' kd env ρ Ca D (ys++[mv]) (us.push u) cn' st h' :=
 have hd:=fun b (q:b=D)=>q▸Ap.d D Ap.oD
 ⟨x.ns.imp fun m y=>UG y fun o e=>k _ o Ap.ne e,d,by rw [Array.toList_push];exact (x.v.snoc hu).mono (k.mono hd),x.X.keep k hd fun a f q=>Ap.F a f (q▸Ap.oD),x.S.keepW k hd fun b q=>⟨_,q▸d⟩⟩
section
variable {one:Bool}{pin:List Nat}{src:List (Nat×MObj)}{it:Addr}{xs:List MV}{At:Nat->Heap->Prop}{Mid:Nat->Value->Heap->Prop}{i:Nat}
theorem ItOk.pinD(I:ItOk A P' one own pin src it xs At Mid)(S:Sim P' st h)(t:ji src st){a:Nat}(d:P'.dead a):a∉pin:=fun q=>(I.pinned st h S t a q).2 d
theorem ItOk.atGo(I:ItOk A P' one own pin src it xs At Mid)(hd:∀ a,own a->P'.dead a)(S:Sim P' st s.heap)(t:ji src st)(a:At i s.heap)(g:Go st s st' s'):At i s'.heap :=
 I.keepAt _ _ _ a (S.mono g) fun b o q e=>q.elim (fun q=>S.dead_keep g b o (hd b q) e) fun q=>g.keep b o e (I.pinned st _ S t b q).1
theorem ItOk.atPut(I:ItOk A P' one own pin src it xs At Mid){W:Nat->Prop}(d:∀ b,W b->P'.dead b)(n:∀ b,own b\/b∈pin->¬ W b)(a:At i h)(k:Keeps W h h'):At i h' :=
 I.keepAt _ _ _ a (k.mono d) fun c o q e=>k c o (n c q) e
theorem V4(c:Ctx K C A){elt:ME}{elt':Expr}{kd':Kd}{env':Env}{ρ':ja}(he:EOk C A elt)(hel:jB kd' elt elt'=true)(Ap:zm P' env own own' Ca D)(I:ItOk A P' one own pin src it xs At Mid)(H:CH P' kd env ρ Ca D ys us cn st s.heap)(hp:D∉pin)(t:∀ {st₁ s₁},Go st s st₁ s₁->At i s₁.heap)(l:ys.length<jb)
  (X':EnvOk P' kd' env' ρ' s.heap) {Kf:MV->St->Prop} (q:wpE C elt ρ' st Kf) {R:Shared->Prop}
  (k:∀ mv u cn st₁ s₁,Kf mv st₁->CH P' kd env ρ Ca D (ys++[mv]) (us.push u) cn st₁ s₁.heap->At i s₁.heap->GoX own' st s st₁ s₁->R s₁) :
  wpAny (model prog w) A (eval elt' env') (fun u s₄=>wpAny (model prog w) A (call (.builtin "list.append") [.ref D,u]) (fun _ s₅=>R s₅) NoE s₄) NoE s:=by
 refine jz (he _ _ hel _ _ _ st s _ X' H.S q) fun mv u st₁ s₁ q hu S₁ g=>?_
 have H₁:=H.go Ap g S₁
 have d:=H₁.d
 refine call_meets F.slot_list_append ⟨_,d,rfl⟩ F.entry_list_append (F.args_list_append_2 _ _) (list_append D us cn u (zy (H.v.length.trans Array.length_toList) l)) ⟨d,?_⟩
 have kp:Keeps (· = D) s₁.heap (s₁.heap.update D (Obj.mapSeq fun x=>x.push u)):=fun b o hb e=>(Heap.get?_update_other _ _ (Ne.symm hb)).trans e
 refine k mv u _ st₁ _ q (H₁.app Ap hu kp (Heap.get?_update_self (Obj.mapSeq fun x=>x.push u) d rfl)) (I.atPut (W:=(· = D)) (fun b q=>q▸Ap.d D Ap.oD) (fun b q z=>q.elim (fun q=>Ap.nD (z▸q)) fun q=>hp (z▸q)) (t g) kp) ?_
 exact (g.x fun a q=>(H.S.dead a (Ap.d a q)).1).trans (Keeps.x fun b o nb e=>kp b o (fun q=>nb (q▸Ap.oD)) e)
theorem on(c:Ctx K C A){elt:ME}{cnd:Option ME}{elt':Expr}{ifs:List Expr}{kd':Kd}{env':Env}{ρ':ja}(he:EOk C A elt)(hcnd:∀ c',cnd=some c'->TOk C A c')(hel:jB kd' elt elt'=true)(hif:q6 kd' cnd ifs=true)
  (Ap:zm P' env own own' Ca D) (I:ItOk A P' one own pin src it xs At Mid) (H:CH P' kd env ρ Ca D ys us cn st s.heap) (t:ji src st) (a:At i s.heap) (l:ys.length<jb)
  (X':EnvOk P' kd' env' ρ' s.heap) {Kf:Option MV->St->Prop} (q:VP C elt cnd ρ' st Kf) {R:Shared->Prop}
  (k:∀ v us' cn st₁ s₁,Kf v st₁->CH P' kd env ρ Ca D (ys++v.toList) us' cn st₁ s₁.heap->At i s₁.heap->GoX own' st s st₁ s₁->R s₁) :
  wpAny (model prog w) A (forIn ifs true fun c r=>if r=true then do let ok ← isTrue c env' (eval c env');pure (ForInStep.yield ok) else pure (ForInStep.yield r)) (fun ok s₃ =>
   if ok=true then wpAny (model prog w) A (eval elt' env') (fun u s₄=>wpAny (model prog w) A (call (.builtin "list.append") [.ref D,u]) (fun _ s₅=>R s₅) NoE s₄) NoE s₃ else R s₃) NoE s:=by
 have hp:=I.pinD H.S t (Ap.d D Ap.oD)
 have own_d:=fun b (q:own b)=>Ap.d b (Ap.s b q)
 cases cnd with
 |none =>
  apply gQ (l:=ifs) hif
  refine wpAny_tests_nil ?_
  rw [if_pos rfl]
  exact V4 c he hel Ap I H hp (fun g=>I.atGo own_d H.S t a g) l X' q fun mv u _ st₁ s₁ q H' a' g=>k (some mv) _ _ st₁ s₁ q H' a' g
 |some c' =>
  apply ZT hif;intro e hif
  refine wpAny_tests_one (yH (hcnd c' rfl _ _ hif _ _ _ st s _ (fun b st₃=>ifb b (wpE C elt ρ' st₃ fun v st₄=>Kf (some v) st₄) (Kf none st₃)) (fun _ _ q=>q) X' H.S q) fun b st₁ s₁ q S₁ g=>?_)
  have H₁:=H.go Ap g S₁
  have gx:=g.x fun a q=>(H.S.dead a (Ap.d a q)).1
  cases b with
  |true =>
   rw [if_pos rfl]
   exact V4 c he hel Ap I H₁ hp (fun g'=>I.atGo own_d H.S t a (g.trans g')) l (X'.go H.S g) q fun mv u _ st₂ s₂ q H' a' g'=>k (some mv) _ _ st₂ s₂ q H' a' (gx.trans g')
  |false =>
   rw [if_neg (by decide)]
   exact k none us _ st₁ s₁ q (by rw [Option.toList_none,List.append_nil];exact H₁) (I.atGo own_d H.S t a g) gx
inductive CLI (W:Nat->List MV->St->Prop) (len:Nat) (At:Nat->Heap->Prop) (P':Pm) (kd:Kd) (env:Env) (ρ:ja) (Ca D:Addr) (own':Nat->Prop) (st₁:St) (s₁:Shared) (n:Nat) (s:Shared):Prop
 | mk (i:Nat) (st:St) (ys:List MV) (us:Array Value) (cn:Nat) (e:n=len+1 - i) (hi:i≤len) (w:W i ys st) (a:At i s.heap) (H:CH P' kd env ρ Ca D ys us cn st s.heap) (l:ys.length≤i) (G:GoX own' st₁ s₁ st s)
inductive ut (P₂:Pm) (kd:Kd) (env:Env) (ρ:ja) (Ca D:Addr) (own':Nat->Prop) (Kc:List MV->St->Prop) (st₁:St) (s₁ s':Shared):Prop
 | mk (ys:List MV) (us:Array Value) (cn:Nat) (st:St) (k:Kc ys st) (n:∀ a,own' a->st a=none) (H:CH P₂ kd env ρ Ca D ys us cn st s'.heap) (l:ys.length≤jb) (G:GoX own' st₁ s₁ st s')
theorem GX{i n:Nat}(h:i<n):n+1 - (i+1)<n+1 - i:=by rw [Nat.add_sub_add_right,Nat.succ_sub (Nat.le_of_lt h)];exact Nat.lt_succ_self _
theorem OX{ys:List MV}{v:Option MV}{i:Nat}(l:ys.length≤i):(ys++v.toList).length≤i+1:=by
 rw [List.length_append]
 cases v with
 |none=>exact Nat.le_succ_of_le l
 |some v=>exact Nat.succ_le_succ l
theorem Ut(c:Ctx K C A){elt:ME}{t:PT}{cnd:Option ME}(he:EOk C A elt)(hcnd:∀ c',cnd=some c'->TOk C A c')
  {sc:Scope}{tgt elt' iter:Expr}{ifs:List Expr}{pos:Pos} (hsc:XZ kd sc=true) (hpa:Yn sc t=true) (hpt:JP (jD kd sc) t tgt=true) (hel:jB (jD kd sc) elt elt'=true)
  (hif:q6 (jD kd sc) cnd ifs=true) (I:ItOk A P' one own pin src it xs At Mid) (hshape:uG one tgt) (hlen:xs.length≤jb) (Ap:zm P' env own own' Ca D) (hfree:∀ x∈sc.names,x.2=.free->∃ c,env.cells.lookup x.1=some c)
  {R:Result->Shared->Prop} (hd₂:∀ a,P₂.dead a->P'.dead a/\¬ own a) (hF₂:∀ a,Fm env a->P₂.dead a) {Kc:List MV->St->Prop}{st₁:St}{s₁:Shared}
  (hw:YB src (zN C elt t cnd ρ) xs [] st₁ Kc) (hAt:At 0 s₁.heap) (H:CH P' kd env ρ Ca D [] #[] cn st₁ s₁.heap) (hR:∀ s',ut P₂ kd env ρ Ca D own' Kc st₁ s₁ s'->R (.ok .next) s') :
  codeAny (model prog w) A (.compLoop (.ListComp elt' [⟨tgt,iter,ifs,0⟩] sc pos) 0 (.ref it) (.ref D) (compEnvC sc (yA env.cells sc.names []) Ca env)) R s₁:=by
 have hnodup:=of_decide_eq_true (Jy hpa).1
 have hCc:∀ x c,env.cells.lookup x=some c->c≠Ca:=fun x c h q=>Ap.F c (.inr ⟨x,h⟩) (q▸Ap.oC)
 refine xC (CLI (fun i ys st=>YB src (zN C elt t cnd ρ) (xs.drop i) ys st Kc) xs.length At P' kd env ρ Ca D own' st₁ s₁) ?_ (xs.length+1) ⟨0,st₁,[],#[],cn,rfl,Nat.zero_le _,hw,hAt,H,Nat.le_refl _,GoX.refl⟩
 clear hw hAt H
 intro n s' Z Q hn ht
 obtain ⟨i,stᵢ,ys,us,cn,e,hi,hw,a,H,l,G⟩:=Z
 have own_d:=fun b (q:own b)=>Ap.d b (Ap.s b q)
 cases hx:xs[i]? with
 |none =>
  rw [ZD hx] at hw
  refine I.done _ i stᵢ s' _ H.S hw.1 a hx fun h₁ kp=>hn _ (hR _ ?_)
  have kp:Keeps own s'.heap h₁:=kp
  have lp:Less P' P₂ s'.heap:=fun b _ _ n q=>n (hd₂ b q).1
  have m:=kp.mono own_d
  exact ⟨ys,us,cn,stᵢ,hw.2,fun a q=>(H.S.dead a (Ap.d a q)).2,⟨H.ns.imp fun m y=>UG y fun o e=>kp _ o Ap.nC e,kp _ _ Ap.nD H.d,H.v.map m lp,H.X.map m lp (fun a o f e=>kp a o (fun q=>Ap.F a f (Ap.s a q)) e) hF₂,H.S.atEnd kp own_d hd₂⟩,Nat.le_trans l (Nat.le_trans hi hlen),G.trans (Keeps.x fun b o nb e=>kp b o (fun q=>nb (Ap.s b q)) e)⟩
 |some x =>
  rw [Zw hx] at hw
  have hlt:i<xs.length:=(List.getElem?_eq_some_iff.mp hx).1
  have hst:=hw.1
  have hw:=hw.2
  refine I.next _ i stᵢ s' x _ H.S hst a hx fun v h₁ tk₁ hMid hVx kp₁=>ht _ _ ?_
  have H₁:=H.step Ap kp₁ (I.aliveMid _ _ _ hMid)
  refine o9 (s:={ s' with heap:=h₁,toks:=tk₁ }) I hshape hMid fun h₂ a₂ kp₂=>?_
  have H₂:=H₁.step Ap kp₂ (I.alive _ _ a₂)
  refine gp (s:={ s' with heap:=h₂,toks:=tk₁ }) c.hh hnodup hpt (Gd H₂.X hsc hpa hpt (Ap.d _ Ap.oC) hCc H₂.ns hfree) H₂.S (hVx.mono (Keeps.mono kp₂ own_d)) hw fun ρ' h₃ tk₃ q X₃ S₃ kp₃=>?_
  have kp₃:Keeps (· = Ca) h₂ h₃:=kp₃
  have hdC:=fun b (q:b=Ca)=>q▸Ap.d Ca Ap.oC
  have H₃:=H₂.but kp₃ hdC (fun a f q=>Ap.F a f (q▸Ap.oC)) (Ne.symm Ap.ne) (by obtain ⟨m,h,_⟩:=X₃.ns;exact ⟨m,h⟩) S₃
  have np:=I.pinD H.S hst (Ap.d _ Ap.oC)
  refine on (s:={ s' with heap:=h₃,toks:=tk₃ }) c he hcnd hel hif Ap I H₃ hst (I.atPut hdC (fun b q z=>q.elim (fun q=>Ap.nC (z▸q)) fun q=>np (z▸q)) a₂ kp₃) (Nat.lt_of_le_of_lt l (Nat.lt_of_lt_of_le hlt hlen)) X₃ q fun v us' cn' stₐ sₐ q H' a' g=>?_
  exact ⟨_,e▸GX hlt,i+1,stₐ,ys++v.toList,us',cn',rfl,hlt,q,a',H',OX l,(G.trans (Keeps.x fun b o nb e=>kp₃ b o (fun q=>nb (q▸Ap.oC)) (kp₂ b o (fun q=>nb (Ap.s b q)) (kp₁ b o (fun q=>nb (Ap.s b q)) e)))).trans g⟩
end
end
section
variable {P:Pm}{A:Around}{K:Frag}{C:jt}
variable {s:Shared}{st:St}{E:Value->Shared->Prop}{kd:Kd}{env:Env}{ρ:ja}
theorem qx{mi:MI}{e:Expr}(h:vj kd mi e=true):∀ x,foldedSetIterable e env x=pure x:=by
 intro x
 cases mi with
 |of m =>
  have:=Zn (Jy h).2
  have p:(pure x:Sem Value)=pure x:=rfl
  cases e<;>first | exact p | cases this
 |_=>apply Js h;intros;rfl
inductive Z8 (P:Pm) (kd:Kd) (env:Env) (ρ:ja) (st:St) (s:Shared) (Q:MV->St->Prop) (Ca D:Addr) (s':Shared):Prop
 | mk (stf:St) (offC:∀ a,a=Ca->h₀.get? a=none) (q:Q (.ref D) stf) (S:Sim (P.more (· = Ca) offC) stf s'.heap) (X:EnvOk (P.more (· = Ca) offC) kd env ρ s'.heap) (ns:∃ m,s'.heap.Ns Ca m) (f:∀ o,s.heap.get? Ca=some o->Wn st Ca) (n:¬ P.dead Ca) (g:Go st s stf s')
structure jbh(h₁ h₂:Heap)(Ca D:Addr):Prop where
 up:∀ b o,h₁.get? b=some o->h₂.get? b=some o
 d:h₂.get? D=some (jL #[] 0)
 ne:Ca≠D
 fC:h₁.get? Ca=none
 fD:h₁.get? D=none
theorem jcj{h₁ h₂:Heap}{o:Obj}(hs:Heap.SameBut (h₁.push (jL #[] 0)).objs.size ((h₁.push (jL #[] 0)).push o) h₂):jbh h₁ h₂ (h₁.push (jL #[] 0)).objs.size h₁.objs.size:=by
 have z:(h₁.push (jL #[] 0)).objs.size=h₁.objs.size+1:=Heap.size_push ..
 have ne:(h₁.push (jL #[] 0)).objs.size≠h₁.objs.size:=z▸Nat.succ_ne_self _
 exact ⟨fun b o e=>hs.extBut b o (fun q=>no (zR _ _) (q▸e)) (y6 _ _ _ _ _ e),hs.extBut _ _ (Ne.symm ne) (jf _ _ _ _ (j8 _ _ rfl)),ne,zR _ _,j3 _⟩
def jaV(own:Nat->Prop)(Ca D:Addr)(a:Nat):Prop:=own a\/a=Ca\/a=D
theorem VO{own G:Nat->Prop}{Ca D:Addr}(h1:∀ a,own a->G a)(h2:G Ca)(h3:G D)(a:Nat)(q:jaV own Ca D a):G a:=q.elim (h1 a) fun q=>q.elim (fun q=>q▸h2) fun q=>q▸h3
theorem GoX.under{W:Nat->Prop}{st':St}{s₁ s':Shared}(G:GoX W st s₁ st' s')(e:∃ h tk,s₁ = { s with heap:=h,toks:=tk })(k:∀ a o,s.heap.get? a=some o->s₁.heap.get? a=some o):GoX W st s st' s' :=
 (show GoX W st s st s₁ from ⟨e,fun a o z _ _=>k a o z,fun a q=>.inl q⟩).trans G
theorem Oj{own':Nat->Prop}{Ca D:Addr}{st₁:St}{s₀ s₁ s':Shared}{Q:MV->St->Prop}{offC:∀ a,a=Ca->h₀.get? a=none}(S₀:Sim P st₁ s₀.heap)(g₀:Go st s st₁ s₀)(e:∃ h tk,s₁ = { s₀ with heap:=h,toks:=tk })(kp:∀ a o,s₀.heap.get? a=some o->s₁.heap.get? a=some o)
  (fr:∀ a,own' a->s₀.heap.get? a=none) (oC:own' Ca) (oD:own' D) (ne:Ca≠D) (Z:ut (P.more (· = Ca) offC) kd env ρ Ca D own' (fun ys st₅=>∀ a,st₅ a=Option.none->ys.length<jb/\Q (.ref a) (st₅.put a (.list ys))) st₁ s₁ s'):Z8 P kd env ρ st s Q Ca D s':=by
 obtain ⟨ys,us,cn,stf,k,nw,H,l,G⟩:=Z
 have nd:∀ a,own' a->¬ P.dead a:=fun a q d=>(S₀.dead a d).1.elim fun _ e=>no (fr a q) e
 have Gf:=(G.under e kp).go fr
 exact ⟨_,offC,(k _ (nw _ oD)).2,H.S.adopt (nw _ oD) (S₀.off (fr _ oD)) (fun d=>d.elim (nd _ oD) (Ne.symm ne)) H.d l H.v,H.X,H.ns,fun o e=>Classical.byContradiction fun n=>no (fr _ oC) (g₀.keep Ca o e n),nd _ oC,
  g₀.trans ⟨Gf.same,Gf.keep,fun a qa=>(zo qa).elim (fun q=>.inr (q▸fr _ oD)) (Gf.grow a)⟩⟩
theorem jak(c:Ctx K C A){elt:ME}{t:PT}{cnd:Option ME}{mi:MI}(he:EOk C A elt)(hcnd:∀ c',cnd=some c'->TOk C A c')
  {sc:Scope}{tgt elt' iter:Expr}{ifs:List Expr}{pos:Pos} (hsc:XZ kd sc=true) (hpa:Yn sc t=true) (hpo:qb t mi=true) (hpt:JP (jD kd sc) t tgt=true) (hel:jB (jD kd sc) elt elt'=true)
  (hif:q6 (jD kd sc) cnd ifs=true) {Q:MV->St->Prop}{use:Option (Value->Sem Unit)}{Qv:Value->Shared->Prop} (hfin:∀ Ca D s',Z8 P kd env ρ st s Q Ca D s'->compPost (model prog w) A NoE use Qv (.ref D) Ca (.ok .next) s')
  (hfree:∀ x∈sc.names,x.2=.free->∃ c,env.cells.lookup x.1=some c) {Ca D:Addr}{st₁:St}{s₀ s₃:Shared}{h₁:Heap}{own:Nat->Prop}{pin:List Nat}{src:List (Nat×MObj)}{it:Addr}{xs:List MV}{f:Str->Option Value} (X₀:EnvOk P kd env ρ s₀.heap) (S₀:Sim P st₁ s₀.heap) (g₀:Go st s st₁ s₀) (hlen:xs.length≤jb)
  (q:YB src (zN C elt t cnd ρ) xs [] st₁ (fun ys st₅=>∀ a,st₅ a=Option.none->ys.length<jb/\Q (.ref a) (st₅.put a (.list ys))))
  (hfr:∀ a,own a->s₀.heap.get? a=none) (hmk:∀ own' off',(∀ a,own a->own' a)->(∀ a,own' a->s₀.heap.get? a=none)->Its A (P.more own' off') (VI mi).one own pin src it xs h₁) (hal:∀ a,own a->∃ o,h₁.get? a=some o)
  (kp:∀ a o,s₀.heap.get? a=some o->h₁.get? a=some o) (e:∃ h tk,s₃ = { s₀ with heap:=h,toks:=tk }) (T:jbh h₁ s₃.heap Ca D) (ns:s₃.heap.Ns Ca f) :
  codeAny (model prog w) A (.compStart (.ListComp elt' [⟨tgt,iter,ifs,0⟩] sc pos) 0 (.ref it) (.ref D) (compEnvC sc (yA env.cells sc.names []) Ca env)) (compPost (model prog w) A NoE use Qv (.ref D) Ca) s₃:=by
 have fr:=VO (G:=fun a=>s₀.heap.get? a=none) hfr (yi kp T.fC) (yi kp T.fD)
 have kpb:∀ a o,s₀.heap.get? a=some o->s₃.heap.get? a=some o:=fun a o e=>T.up a o (kp a o e)
 have off:=fun a q=>S₀.off (fr a q)
 have nd:∀ a,jaV own Ca D a->¬ P.dead a:=fun a q d=>(S₀.dead a d).1.elim fun _ e=>no (fr a q) e
 obtain ⟨At,Mid,I,a⟩:=hmk (jaV own Ca D) off (fun a q=>.inl q) fr
 have nC:¬ own Ca:=fun q=>(hal _ q).elim fun o e=>no T.fC e
 have Ap:zm (P.more (jaV own Ca D) off) env own (jaV own Ca D) Ca D:=⟨fun a q=>.inl q,fun a q=>.inr q,.inr (.inl rfl),.inr (.inr rfl),nC,fun q=>(hal _ q).elim fun o e=>no T.fD e,T.ne,fun a f q=>nd a q (X₀.dead a f)⟩
 have a₂:At 0 s₃.heap:=I.keepAt _ _ _ a (.keep T.up) fun a o _ e=>T.up a o e
 have loop:=Ut (R:=compPost (model prog w) A NoE use Qv (.ref D) Ca) (iter:=iter) (pos:=pos) (P₂:=P.more (· = Ca) fun a q=>off a (.inr (.inl q))) c he hcnd hsc hpa hpt hel hif I (QI hpo hpt) hlen Ap hfree (fun a d=>d.elim (fun d=>⟨.inl d,fun q=>nd a (.inl q) d⟩) fun q=>⟨.inr (.inr (.inl q)),q▸nC⟩)
  (fun a f=>.inl (X₀.dead a f)) q a₂ ⟨⟨_,ns⟩,T.d,rfl,X₀.more (off:=off) fr kpb,S₀.more (off:=off) fr kpb (VO (fun a q=>(hal a q).imp fun o e=>T.up a o e) (Ns.there ns) ⟨_,T.d⟩)⟩ fun s' Z=>hfin Ca D s' (Oj S₀ g₀ e kpb fr (.inr (.inl rfl)) (.inr (.inr rfl)) T.ne Z)
 exact codeAny_compStart_list loop (I.self _ 0 _ _ a₂ loop)
theorem ZP(c:Ctx K C A){elt:ME}{t:PT}{cnd:Option ME}{mi:MI}(hi:IOk C A mi)(he:EOk C A elt)(hcnd:∀ c',cnd=some c'->TOk C A c')
  {sc:Scope}{tgt elt' iter:Expr}{ifs:List Expr}{pos pos':Pos} (hsc:XZ kd sc=true) (hpa:Yn sc t=true) (hpo:qb t mi=true) (hpt:JP (jD kd sc) t tgt=true) (hit:vj kd mi iter=true) (hel:jB (jD kd sc) elt elt'=true)
  (hif:q6 (jD kd sc) cnd ifs=true) (X:EnvOk P kd env ρ s.heap) (S:Sim P st s.heap)
  {Q:MV->St->Prop} (hw:wpE C (.comp elt t mi cnd) ρ st Q) {use:Option (Value->Sem Unit)}{Qv:Value->Shared->Prop}
  (hfin:∀ Ca D s',Z8 P kd env ρ st s Q Ca D s'->compPost (model prog w) A NoE use Qv (.ref D) Ca (.ok .next) s') :
  wpAny (model prog w) A (comprehension (.ListComp elt' [⟨tgt,iter,ifs,0⟩] sc pos) sc env pos' (newList []) false (eval iter env) use) Qv NoE s:=by
 have Z:=V8 hsc
 have hfree:∀ x∈sc.names,x.2=.free->∃ c,env.cells.lookup x.1=some c:=fun x hx q=>by
  obtain ⟨c,o,a,_⟩:=X.cell x.1 (Z.fr x hx q)
  exact ⟨c,a⟩
 have hclos:closureFor sc env=pure (yA env.cells sc.names []) :=
  (congrArg (fun m:Sem (List (Str×Addr))=>m>>=fun r=>pure r) (GC (env:=env) (fun x cs=>match x with | (name,kind)=>if kind==.free then (do let a ← cellOf env name;pure (.yield ((name,a)::cs))) else pure (.yield cs)) (fun n k cs=>rfl) sc.names [] hfree)).trans rfl
 refine wpAny_comprehension_free (cl:=yA env.cells sc.names []) rfl (qx hit) hclos Z.fn Z.lc ?_
 refine wpAny_mono (hi kd _ hit P env ρ st s _ X S (VN hw)) (fun v s₁ p=>?_) fun _ _ e=>e
 obtain ⟨xs,src,st₁,s₀,q,hst,S₀,g₀,hext,kp₀,Ib⟩:=p
 have X₀:=X.go S g₀
 have hlen:=jbG Ib S₀ hst
 refine ZE c.hh Ib S₀ hst kp₀ fun it own pin h₁ hfr hmk hal kp₁=>?_
 refine wpAny_newObj_type (wpAny_newFunctionEnv (binds:=[]) Z.nc (fun _ h=>nomatch h) (fun h₂ hns₂ hsb₂=>?_) Z.fn)
 exact jak c he hcnd hsc hpa hpo hpt hel hif hfin hfree X₀ S₀ g₀ hlen q hfr hmk hal (fun a o e=>kp₁ a o (kp₀ a o e)) (by obtain ⟨h,tk,e⟩:=hext;exact ⟨h₂,_,by rw [e]⟩) (jcj hsb₂) hns₂
end
section
variable {P:Pm}{A:Around}{K:Frag}{C:jt}
variable {s:Shared}{st:St}{E:Value->Shared->Prop}{kd:Kd}{env:Env}{ρ:ja}
theorem Sim.letC{Ca:Addr}{offC:∀ a,a=Ca->h₀.get? a=none}{h h':Heap}(S:Sim (P.more (· = Ca) offC) st h)(hn:¬ P.dead Ca)(hs:Heap.SameBut Ca h h'):Sim P st h' :=
 S.atEnd (W:=(· = Ca)) (fun a o nb e=>hs.extBut a o nb e) (fun a q=>.inr q) fun a d=>⟨.inl d,fun q:a=Ca=>hn (q▸d)⟩
theorem EnvOk.letC{Ca:Addr}{offC:∀ a,a=Ca->h₀.get? a=none}{h h':Heap}(X:EnvOk (P.more (· = Ca) offC) kd env ρ h)(hd:∀ a,Fm env a->P.dead a)(hn:¬ P.dead Ca)(hs:Heap.SameBut Ca h h'):EnvOk P kd env ρ h' :=
 (X.keep (W:=(· = Ca)) (fun a o nb e=>hs.extBut a o nb e) (fun a q=>.inr q) fun a ha q=>hn (q▸hd a ha)).less hd
theorem QT(c:Ctx K C A){elt:ME}{t:PT}{cnd:Option ME}{mi:MI}(hi:IOk C A mi)(he:EOk C A elt)(hcnd:∀ c',cnd=some c'->TOk C A c'):EOk C A (.comp elt t mi cnd):=by
 intro kd e hc
 apply iC hc;intro _ _ _ _ _ _ hsc hpa hpo hpt hit hel hif
 intro P env ρ st s Q X S hw
 refine ZP (use:=none) c hi he hcnd hsc hpa hpo hpt hit hel hif X S hw fun Ca D s' Z=>?_
 obtain ⟨stf,offC,q,S',X',ns,f,n,g⟩:=Z
 obtain ⟨m,ns⟩:=ns
 refine ⟨m,ns,fun h' hs=>⟨.ref D,stf,q,rfl,S'.letC n hs,?_,fun a o e nw=>hs.extBut a o (fun q=>nw (q▸f o (q▸e))) (g.keep a o e nw),g.grow⟩⟩
 obtain ⟨h2,t2,e⟩:=g.same
 exact ⟨h',t2,by rw [e]⟩
end
section
variable {A:Around}{K:Frag}{C:jt}
mutual
theorem jv(c:Ctx K C A):∀ me,EOk C A me/\TOk C A me
 |.none=>⟨uB,jo uB (by intro kd e hc env whole;apply JM hc;intros;rfl)⟩
 |.bool b=>⟨Ua,jo Ua (by intro kd e hc env whole;apply JM hc;intros;rfl)⟩
 |.int i=>⟨OT,jo OT (by intro kd e hc env whole;apply JM hc;intros;rfl)⟩
 |.str x=>⟨jan,jo jan (by intro kd e hc env whole;apply JM hc;intros;rfl)⟩
 |.var x=>⟨On,jo On (by intro kd e hc env whole;apply Yt hc;intros;rfl)⟩
 |.gstr x v=>⟨ur c,jo (ur c) (by intro kd e hc env whole;apply Yt hc;intros;rfl)⟩
 |.optab i=>⟨ZH c (jv c i).1,jo (ZH c (jv c i).1) (by intro kd e hc env whole;apply zx hc;intros;rfl)⟩
 |.bin op l r=>⟨uz c (jv c l).1 (jv c r).1,jo (uz c (jv c l).1 (jv c r).1) (by intro kd e hc env whole;apply jeF hc;intros;rfl)⟩
 |.neg x=>⟨jaq (jv c x).1,jo (jaq (jv c x).1) (by intro kd e hc env whole;apply iUn hc;intro o _ _ z;apply JA (a:=o) (Jy z).1;rfl)⟩
 |.not x=>⟨jen (jv c x).1,jbX (jv c x).2⟩
 |.and l r=>⟨jcA (jv c l).1 (jv c r).1,jcO (jv c l).2 (jv c r).2⟩
 |.or l r=>⟨jdD (jv c l).1 (jv c r).1,jdH (jv c l).2 (jv c r).2⟩
 |.ite t b o=>⟨jcG (jv c t).2 (jv c b).1 (jv c o).1,jcr (jv c t).2 (jv c b).2 (jv c o).2⟩
 |.isn x=>⟨jbU (jv c x).1,jcc (jv c x).1⟩
 |.isnn x=>⟨jaE (jv c x).1,oz (jv c x).1⟩
 |.cmp op l r=>⟨jbD c (jv c l).1 (jv c r).1,jbK c (jv c l).1 (jv c r).1⟩
 |.cmp2 o₁ o₂ x y z=>⟨O6 c (jv c x).1 (jv c y).1 (jv c z).1,jag c (jv c x).1 (jv c y).1 (jv c z).1⟩
 |.call f args=>⟨Vx c (xm c args),jo (Vx c (xm c args)) (by intro kd e hc env whole;apply Js hc;intros;rfl)⟩
 |.bcall f args=>⟨Zl c (xm c args),jo (Zl c (xm c args)) (by intro kd e hc env whole;apply Js hc;intros;rfl)⟩
 |.mklist it=>⟨Xx c (U8 c it),jo (Xx c (U8 c it)) (by intro kd e hc env whole;apply Js hc;intros;rfl)⟩
 |.mkdlist e=>⟨qQ c (jv c e).1,jo (qQ c (jv c e).1) (by intro kd e hc env whole;apply Js hc;intros;rfl)⟩
 |.meth o m args=>⟨QR c (jv c o).1 (xm c args),jo (QR c (jv c o).1 (xm c args)) (by intro kd e hc env whole;apply Q6 hc;intros;rfl)⟩
 |.attr o a=>⟨QO c (jv c o).1,jo (QO c (jv c o).1) (by intro kd e hc env whole;apply vf hc;intros;rfl)⟩
 |.sub o i=>⟨uZ c (jv c o).1 (jv c i).1,jo (uZ c (jv c o).1 (jv c i).1) (by intro kd e hc env whole;apply zx hc;intros;rfl)⟩
 |.sfrom o i=>⟨Zv c (jv c o).1 (jv c i).1,jo (Zv c (jv c o).1 (jv c i).1) (by intro kd e hc env whole;apply zx hc;intros;rfl)⟩
 |.sto o i=>⟨uV c (jv c o).1 (jv c i).1,jo (uV c (jv c o).1 (jv c i).1) (by intro kd e hc env whole;apply zx hc;intros;rfl)⟩
 |.srev o=>⟨VS c (jv c o).1,jo (VS c (jv c o).1) (by intro kd e hc env whole;apply zx hc;intros;rfl)⟩
 |.tup xs=>⟨ul (xm c xs),jo (ul (xm c xs)) (by intro kd e hc env whole;apply YY hc;intros;rfl)⟩
 |.list xs=>⟨Ve (xm c xs),jo (Ve (xm c xs)) (by intro kd e hc env whole;apply Oe hc;intros;rfl)⟩
 |.idict0=>⟨XC c,jo (XC c) (by intro kd e hc env whole;apply GU hc;intros;rfl)⟩
 |.tdict0=>⟨vM c,jo (vM c) (by intro kd e hc env whole;apply GU hc;intros;rfl)⟩
 |.comp elt t it none =>
  have h:=QT (t:=t) c (U8 c it) (jv c elt).1 (cnd:=none) (fun c' h=>by cases h)
  ⟨h,jo h (by intro kd e hc env whole;apply iC hc;intros;rfl)⟩
 |.comp elt t it (some c₁) =>
  have h:=QT (t:=t) c (U8 c it) (jv c elt).1 (cnd:=some c₁) (fun c' h=>by cases h;exact (jv c c₁).2)
  ⟨h,jo h (by intro kd e hc env whole;apply iC hc;intros;rfl)⟩
theorem xm(c:Ctx K C A):∀ mes,Xk C A mes
 |[]=>jfi
 |x::xs=>jbF (jv c x).1 (xm c xs)
theorem U8(c:Ctx K C A):∀ mi,IOk C A mi
 |.of x=>jdV (jv c x).1
 |.range x=>Uv c (jv c x).1
 |.enum x=>Ox c (jv c x).1
 |.zip x y=>jbw c (jv c x).1 (jv c y).1
end
end
abbrev PostT(P:Pm)(kd:Kd)(env:Env)(st:St)(s:Shared)(K:ja->St->Prop)(s':Shared):Prop :=
 PostN P kd env (Fm env) st s K s'
section
variable (C:jt) (A:Around)
def jgU(mt:MT)(kd:Kd)(e:Expr):Prop:=∀ (P:Pm),∀ env ρ (st:St) (s:Shared) mv v (Q:ja->St->Prop),EnvOk P kd env ρ s.heap->Sim P st s.heap->V P s.heap mv v->Yr C mt mv ρ st Q ->
 wpAny (model prog w) A (assign e env v) (fun _ s'=>PostT P kd env st s Q s') NoE s
def Ux(mt:MT):Prop:=∀ (kd:Kd) e,XQ kd mt e=true->jgU C A mt kd e
def jgE(mts:List MT)(kd:Kd)(es:List Expr):Prop:=∀ (P:Pm),∀ env ρ (st:St) (s:Shared) mvs vs (Q:ja->St->Prop),EnvOk P kd env ρ s.heap->Sim P st s.heap->Vs P s.heap mvs vs->mvs.length=mts.length->Y2 C mts mvs ρ st Q ->
 wpAny (model prog w) A (assignInOrder ((assignEach es env).map (·.2)) vs) (fun _ s'=>PostT P kd env st s Q s') NoE s
def Vr(mts:List MT):Prop:=∀ (kd:Kd) es,qT kd mts es=true->jgE C A mts kd es
end
section
variable {P:Pm}{A:Around}{K:Frag}{C:jt}
variable {s:Shared}{st:St}{E:Value->Shared->Prop}{kd:Kd}{env:Env}{ρ:ja}
theorem vq{t:MT}{e:Expr}(h:XQ kd t e=true)(rest:List Expr)(env:Env):assignEach (e::rest) env=(false,assign e env)::assignEach rest env:=by
 have p:(false,assign e env)::assignEach rest env=(false,assign e env)::assignEach rest env:=rfl
 cases e<;>first | exact p | (cases t<;>exact ff h)
structure jgD(n:Nat)(es:List Expr)(env:Env):Prop where
 l:es.length=n
 a:(assignEach es env).length=n
 f:(assignEach es env).findIdx? (·.1)=none
theorem jaC{env:Env}{ts:List MT}:∀ {es:List Expr},qT kd ts es=true->jgD ts.length es env:=by
 induction ts with
 |nil=>intro es h;rw [qF h];exact ⟨rfl,rfl,rfl⟩
 |cons t ts ih =>
  intro es h
  obtain ⟨e,r,z,h1,h2⟩:=zh h
  have i:=ih h2
  rw [z]
  exact ⟨congrArg Nat.succ i.l,by rw [vq h1];exact congrArg Nat.succ i.a,by rw [vq h1,List.findIdx?_cons,i.f];rfl⟩
theorem PostT.go{st₁:St}{s₁ s₂:Shared}{Q:ja->St->Prop}(g:GoX (Fm env) st s st₁ s₁)(p:PostT P kd env st₁ s₁ Q s₂):PostT P kd env st s Q s₂:=by
 obtain ⟨ρ',st',k,X,S,g'⟩:=p
 exact ⟨ρ',st',k,X,S,g.trans g'⟩
theorem jbu{x:String}:Ux C A (.var x):=by
 intro kd e hc
 apply Yt hc;intro n _ z
 refine aE2 z fun z1 hk=>?_
 rw [beq_iff_eq.mp z1] at hk ⊢
 intro P env ρ st s mv v Q X S hv hw
 exact wpAny_assign_Name (vr hk X S hv fun h' tk X' S' kp=>⟨_,st,hw,X',S',kp.x⟩)
theorem jai(c:Ctx K C A){o:ME}{a:String}:Ux C A (.attr o a):=by
 intro kd e hc
 apply vf hc;intro x n _ z
 refine aE3 z fun z1 h1 h2=>?_
 apply JA (a:=n) z1
 intro P env ρ st s mv v Q X S hv hw
 rw [arm_assign_Attribute]
 refine wpAny_bind (wpAny_holding (jz ((jv c o).1 kd _ h2 P env ρ st s _ X S hw) fun ov vo st₁ s₁ q hvo S₁ g₁=>?_))
 refine wpAny_bind (wpAny_standAt (wpAny_bind (wpAny_holding ?_)))
 have XK:K.In s₁.heap:=c.F.inK.keeps (S₁.keep)
 refine wpAny_mono (gn S₁ XK hvo (hv.mono (S.mono g₁)) (fun c' C' h=>(c.F.cls c' C' h).1.1) (List.contains_iff_mem.mp h1) q) (fun _ s' p=>wpAny_release' ?_) fun _ _ e=>e
 obtain ⟨st',k,S',g'⟩:=p
 have g:=g₁.trans g'
 exact ⟨ρ,st',k,X.go S g,S',g.x (X.dead_there S)⟩
theorem jcM(c:Ctx K C A){o i:ME}:Ux C A (.sub o i):=by
 intro kd e hc
 apply zx hc;intro x y _ z
 refine aE3 z fun h1 h2 h3=>?_
 intro P env ρ st s mv v Q X S hv hw
 rw [arm_assign_Subscript]
 refine wpAny_bind (wpAny_holding (jz ((jv c o).1 kd _ h1 P env ρ st s _ X S hw) fun ov vo st₁ s₁ q hvo S₁ g₁=>?_))
 refine wpAny_bind (wpAny_holding (jz ((jv c i).1 kd _ h2 P env ρ st₁ s₁ _ (X.go S g₁) S₁ q) fun iv vi st₂ s₂ q hvi S₂ g₂=>?_))
 refine wpAny_bind (wpAny_standAt (wpAny_bind (wpAny_holding ?_)))
 refine wpAny_mono (UH S₂ c.sys (Nat.lt_of_le_of_lt (Nat.add_le_add_left (by decide) _) c.hu) (hvo.mono (S₁.mono g₂)) hvi (hv.mono (S.mono (g₁.trans g₂))) q) (fun _ s' p=>wpAny_release' ?_) fun _ _ e=>e
 obtain ⟨st',k,S',g'⟩:=p
 have g:=(g₁.trans g₂).trans g'
 exact ⟨ρ,st',k,X.go S g,S',g.x (X.dead_there S)⟩
theorem jcq(c:Ctx K C A){ts:List MT}(hts:Vr C A ts):Ux C A (.tup ts):=by
 intro kd e hc
 apply YY hc;intro x _ _ hc
 intro P env ρ st s mv v Q X S hv hw
 have i:=jaC (env:=env) hc
 rw [arm_assign_Tuple]
 refine wpAny_bind (wpAny_standAt ?_)
 unfold unpack
 rw [i.a,i.f]
 refine wpAny_bind (wpAny_holding (qO c.hh S hv hw fun mvs vs h' k hm hvs kp=>?_))
 have g:GoX (Fm env) st s st { s with heap:=h' }:=Keeps.x (tk:=s.toks) fun b o _ e=>kp b o e
 exact wpAny_mono (hts kd _ hc P env ρ st { s with heap:=h' } mvs vs Q (X.keeps (S.monoK kp) fun a o _ e=>kp a o e) (S.keeps kp) hvs hm k) (fun _ s' p=>p.go g) fun _ _ e=>e
theorem jcf:Vr C A []:=by
 intro kd es hc
 rw [qF hc]
 intro P env ρ st s mvs vs Q X S hv hl hw
 cases mvs with
 |nil=>rw [show vs=[] from hv];exact wpAny_pure ⟨ρ,st,hw,X,S,GoX.refl⟩
 |cons m mvs=>cases hl
theorem EnvOk.monoX{st₁:St}{s₁:Shared}(X:EnvOk P kd env ρ s.heap)(S:Sim P st s.heap)(g:GoX (Fm env) st s st₁ s₁):Mono P s.heap s₁.heap:=fun a o e q=>by
 refine g.keep a o e (fun n=>?_) fun d=>q.elim (fun q=>q.2 (X.dead a d)) fun q=>q (P.off a (X.dead a d))
 obtain ⟨ob,y,_⟩:=n
 refine q.elim (fun q=>?_) fun q=>q (S.below a ob y)
 obtain ⟨o2,z,n⟩:=S.has y
 exact n (Option.some.inj (e.symm.trans z)▸q.1)
theorem jaA{t:MT}{ts:List MT}(ht:Ux C A t)(hts:Vr C A ts):Vr C A (t::ts):=by
 intro kd es hc
 obtain ⟨e,es,z,h1,h2⟩:=zh hc
 rw [z]
 intro P env ρ st s mvs vs Q X S hv hl hw
 cases mvs with
 |nil=>cases hl
 |cons m mvs =>
  obtain ⟨v,r,e1,hv1,hv2⟩:=hv
  rw [e1,vq h1]
  show wpAny _ _ (holding r (assign _ env v)>>=fun _=>assignInOrder ((assignEach _ env).map (·.2)) r) _ _ _
  refine wpAny_bind (wpAny_holding (wpAny_mono (ht kd _ h1 P env ρ st s m v _ X S hv1 hw) (fun _ s₁ p=>?_) fun _ _ e=>e))
  obtain ⟨ρ₁,st₁,k,X₁,S₁,g₁⟩:=p
  exact wpAny_mono (hts kd _ h2 P env ρ₁ st₁ s₁ mvs r Q X₁ S₁ (hv2.mono (X.monoX S g₁)) (Nat.succ.inj hl) k) (fun _ s' p=>p.go g₁) fun _ _ e=>e
mutual
theorem jdo(c:Ctx K C A):∀ t,Ux C A t
 |.var x=>jbu
 |.attr o a=>jai c
 |.sub o i=>jcM c
 |.tup ts=>jcq c (O4 c ts)
theorem O4(c:Ctx K C A):∀ ts,Vr C A ts
 |[]=>jcf
 |t::ts=>jaA (jdo c t) (O4 c ts)
end
end
theorem UY{x y:String}(h:x≠y)(v u:MV)(ρ:ja):yf (yf ρ x v) y u=yf (yf ρ y u) x v:=by
 induction ρ with
 |nil=>rfl
 |cons f r ih =>
  obtain ⟨z,w⟩:=f
  simp only [ym]
  by_cases hx:z=x
  ·rw [if_pos hx,if_neg fun e=>h (hx▸e),ym,ym,if_neg fun e=>h (hx▸e),if_pos hx]
  ·by_cases hy:z=y
   ·rw [if_neg hx,if_pos hy,ym,ym,if_pos hy,if_neg hx]
   ·rw [if_neg hx,if_neg hy,ym,ym,if_neg hy,if_neg hx,ih]
theorem U5{x:String}{v:MV}{xs:List String}:∀ {vs:List MV}{ρ:ja},x∉xs->y5 (yf ρ x v) xs vs=yf (y5 ρ xs vs) x v:=by
 induction xs with
 |nil=>intros;rfl
 |cons y xs ih =>
  intro vs ρ h
  cases vs with
  |nil=>rfl
  |cons u vs =>
   show y5 (yf (yf ρ x v) y u) xs vs=yf (y5 (yf ρ y u) xs vs) x v
   rw [UY fun e:x=y=>h (e▸List.mem_cons_self ..),ih fun hm=>h (List.mem_cons_of_mem _ hm)]
theorem Gh{x:String}{v:MV}{xs:List String}:∀ {vs:List MV}{ρ:ja},xs.length=vs.length->y5 ρ (xs++[x]) (vs++[v])=yf (y5 ρ xs vs) x v:=by
 induction xs with
 |nil =>
  intro vs ρ h
  cases vs with
  |nil=>rfl
  |cons u vs=>cases h
 |cons y xs ih =>
  intro vs ρ h
  cases vs with
  |nil=>cases h
  |cons u vs=>exact ih (Nat.succ.inj h)
theorem U7{xs:List String}:∀ {vs:List MV}{ρ:ja},xs.Nodup->xs.length=vs.length->y5 ρ xs.reverse vs.reverse=y5 ρ xs vs:=by
 induction xs with
 |nil =>
  intro vs ρ _ h
  cases vs with
  |nil=>rfl
  |cons u vs=>cases h
 |cons y xs ih =>
  intro vs ρ nd h
  cases vs with
  |nil=>cases h
  |cons u vs =>
   have h:=Nat.succ.inj h
   rw [List.nodup_cons] at nd
   rw [List.reverse_cons,List.reverse_cons,Gh (by rw [List.length_reverse,List.length_reverse];exact h),ih nd.2 h]
   exact (U5 nd.1).symm
noncomputable def ju(env:Env)(line:Nat)(ts:List Expr):List Str:=ts.filterMap fun x=>swappedStores.match_8 (fun _=>Option Str) x (fun id pos=>if (env.kindOf id==some .local&&pos.line==line)=true then some id else none) fun _=>none
inductive QC (env:Env) (t:Expr) (m:Sem (Option (List Str))):Prop
 | no (e:m=pure none)
 | yes (ts:List Expr) (k:Nat) (p:Pos) (line:Nat) (et:t=.Tuple ts k p) (e:m=pure (some (ju env line ts))) (l:(ju env line ts).length=ts.length) (d:(ju env line ts).eraseDups.length=(ju env line ts).length)
theorem zA{c:Prop}[Decidable c]{α:Type}{x y:α}{G:α->Prop}(h1:c->G x)(h2:¬ c->G y):G (if c then x else y):=by
 by_cases h:c
 ·rw [if_pos h];exact h1 h
 ·rw [if_neg h];exact h2 h
theorem jcX{a b c d:Nat}(h:¬ (a != b||c != d)=true):a=b/\c=d:=by simpa using h
theorem Za{ts vs:List Expr}{k k':Nat}{p p':Pos}{env:Env}(h8:vs.all (constantsAlone 8)=false):QC env (.Tuple ts k p) (swappedStores [.Tuple ts k p] (.Tuple vs k' p') env):=by
 unfold swappedStores
 dsimp only
 apply zA (fun _=>.no rfl);intro _
 apply zA (fun _=>.no rfl);intro _
 apply zA (fun _=>.no rfl);intro hn
 apply zA (fun _=>.no rfl);intro _
 apply zA (fun h=>nomatch h8.symm.trans h);intro _
 exact .yes _ _ _ _ rfl rfl (jcX hn).1 (jcX hn).2
theorem Ze{kd:Kd}{mt:MT}{t e:Expr}{env:Env}(hc:XQ kd mt t=true)(h3:uY mt e=true):QC env t (swappedStores [t] e env):=by
 cases mt with
 |var=>apply Yt hc;intros;exact .no rfl
 |attr=>apply vf hc;intros;exact .no rfl
 |sub=>apply zx hc;intros;exact .no rfl
 |tup mts =>
  apply YY hc;intro ts k p _
  cases h:qI e (fun _ _ _=>true) with
  |false =>
   have q:QC env (.Tuple ts k p) (pure none):=.no rfl
   cases e<;>first | exact q | cases h
  |true =>
   revert h3
   apply YY h;intro vs k' p' _ h3
   exact Za (Zn h3)
inductive uF (t e:Expr) (line:Nat) (env:Env):Prop
 | no (h:swapsWith e (some t) line env=pure false)
 | yes (h:swapsWith e (some t) line env=pure true) (x:Str) (p:Pos) (et:t=.Name x p) (elt:Expr) (gs:List Comprehension) (sc:Scope) (q:Pos) (ee:e=.ListComp elt gs sc q)
theorem jfj{t e:Expr}{line:Nat}{env:Env}(b:Bool)(h:swapsWith e (some t) line env=pure b){x:Str}{p:Pos}(et:t=.Name x p){elt:Expr}{gs:List Comprehension}{sc:Scope}{q:Pos}(ee:e=.ListComp elt gs sc q):uF t e line env:=by
 cases b
 ·exact .no h
 ·exact .yes h _ _ et _ _ _ _ ee
theorem Us{kd:Kd}{me:ME}{t e:Expr}{line:Nat}{env:Env}(h:Zu e (fun _ _ _ _=>true)=false)(hc:jB kd me e=true):swapsWith e (some t) line env=pure false:=by
 have hi:=vx hc
 clear hc
 have p:(pure false:Sem Bool)=pure false:=rfl
 cases e<;>first | exact p | (cases h;done) | exact nomatch hi
theorem jbg{kd:Kd}{me:ME}{mt:MT}{t e:Expr}{line:Nat}{env:Env}(hc:jB kd me e=true)(ht:XQ kd mt t=true):uF t e line env:=by
 cases h:Zu e (fun _ _ _ _=>true) with
 |false=>exact .no (Us h hc)
 |true =>
  clear hc
  apply jaT h;intro elt gs sc q _
  cases mt with
  |var=>apply Yt ht;intro x p _;exact jfj _ rfl rfl rfl
  |attr=>apply vf ht;intros;exact .no rfl
  |sub=>apply zx ht;intros;exact .no rfl
  |tup mts=>apply YY ht;intros;exact .no rfl
section
variable {P:Pm}{A:Around}{K:Frag}{C:jt}
variable {s:Shared}{st:St}{E:Value->Shared->Prop}{kd:Kd}{env:Env}{ρ:ja}
theorem G7{line:Nat}{e:Expr}{r:List Expr}:ju env line (e::r)=ju env line [e]++ju env line r:=List.filterMap_append (l:=[e])
theorem ua{line:Nat}{n:Str}{p:Pos}{b:Bool}(h:(env.kindOf n==some .local&&p.line==line)=b):ju env line [.Name n p]=if b then [n] else []:=by
 unfold ju
 rw [List.filterMap_cons,List.filterMap_nil]
 dsimp only
 rw [h]
 cases b<;>rfl
theorem jfd{line:Nat}{t:MT}{e:Expr}(hk:∀ x,env.kindOf x=kd x)(hc:XQ kd t e=true):ju env line [e]=[]\/∃ x,t=.var x/\ju env line [e]=[Str.ofString x]/\kd (Str.ofString x)=some .local:=by
 cases t with
 |var x =>
  apply Yt hc;intro n p z
  rw [beq_iff_eq.mp (Jy z).1]
  cases h:(env.kindOf (Str.ofString x)==some .local&&p.line==line) with
  |true=>exact .inr ⟨x,rfl,ua h,by rw [← hk];exact beq_iff_eq.mp (Jy h).1⟩
  |false=>exact .inl (ua h)
 |attr=>apply vf hc;intros;exact .inl rfl
 |sub=>apply zx hc;intros;exact .inl rfl
 |tup=>apply YY hc;intros;exact .inl rfl
inductive jdY (kd:Kd) (mts:List MT) (ns:List Str):Prop
 | mk (xs:List String) (e:mts=xs.map MT.var) (f:ns=xs.map Str.ofString) (h:∀ x∈xs,kd (Str.ofString x)=some .local)
theorem gi{line:Nat}{mts:List MT}:∀ {ts:List Expr},(∀ x,env.kindOf x=kd x)->qT kd mts ts=true->(ju env line ts).length=ts.length->jdY kd mts (ju env line ts):=by
 induction mts with
 |nil=>intro ts hk hc hl;rw [qF hc];exact ⟨[],rfl,rfl,fun _ h=>nomatch h⟩
 |cons t mts ih =>
  intro ts hk hc hl
  obtain ⟨e,r,z,h1,h2⟩:=zh hc
  rw [z] at hl ⊢
  have hr:(ju env line r).length≤r.length:=List.length_filterMap_le ..
  rw [G7,List.length_append,List.length_cons] at hl
  rw [G7]
  rcases jfd (line:=line) hk h1 with h | ⟨x,e1,h,hx⟩
  ·rw [h,List.length_nil,Nat.zero_add] at hl;exact absurd hr (Nat.not_le.mpr (hl▸Nat.lt_succ_self _))
  ·rw [h,List.length_singleton,Nat.add_comm] at hl
   obtain ⟨xs,e3,e2,h3⟩:=ih hk h2 (Nat.succ.inj hl)
   rw [h,e2,e1,e3]
   exact ⟨x::xs,rfl,rfl,fun y hy=>(List.mem_cons.mp hy).elim (fun q=>q▸hx) (h3 y)⟩
theorem QM{xs:List String}:∀ {mvs:List MV}{ρ:ja}{Q:ja->St->Prop},xs.length=mvs.length->Y2 C (xs.map MT.var) mvs ρ st Q->Q (y5 ρ xs mvs) st:=by
 induction xs with
 |nil =>
  intro mvs ρ Q h
  cases mvs with
  |nil=>exact id
  |cons m mvs=>cases h
 |cons x xs ih =>
  intro mvs ρ Q h
  cases mvs with
  |nil=>cases h
  |cons m mvs=>exact ih (Nat.succ.inj h)
end
section
variable (C:jt) (A:Around)
def EvS(ms:MS)(kd:Kd)(ss:Stmt):Prop:=∀ (P:Pm),∀ env ρ (st:St) (s:Shared) (Kn:ja->St->Prop) (Kr:MV->St->Prop),EnvOk P kd env ρ s.heap->Sim P st s.heap->wpS C ms ρ st Kn Kr ->
 wpAny (model prog w) A (exec ss env) (PostS P kd env (Fm env) st s Kn Kr) NoE s
def QA(ms:MS):Prop:=∀ (kd:Kd) ss,jev kd ms ss=true->EvS C A ms kd ss
def jhH(mss:List MS)(kd:Kd)(ss:List Stmt):Prop:=∀ (P:Pm),∀ env ρ (st:St) (s:Shared) (Kn:ja->St->Prop) (Kr:MV->St->Prop),EnvOk P kd env ρ s.heap->Sim P st s.heap->jG C mss ρ st Kn Kr ->
 wpAny (model prog w) A (execs ss env) (PostS P kd env (Fm env) st s Kn Kr) NoE s
def Zi(mss:List MS):Prop:=∀ (kd:Kd) ss,J5 kd mss ss=true->jhH C A mss kd ss
end
section
variable {P:Pm}{A:Around}{K:Frag}{C:jt}
variable {s:Shared}{st:St}{E:Value->Shared->Prop}{kd:Kd}{env:Env}{ρ:ja}
theorem PostN.go{D:Nat->Prop}{st₁:St}{s₁ s₂:Shared}{Kn:ja->St->Prop}(g:GoX D st s st₁ s₁)(p:PostN P kd env D st₁ s₁ Kn s₂):PostN P kd env D st s Kn s₂:=by
 obtain ⟨ρ',st',k,X,S,g'⟩:=p
 exact ⟨ρ',st',k,X,S,g.trans g'⟩
theorem PostR.go{D:Nat->Prop}{st₁:St}{s₁ s₂:Shared}{Kr:MV->St->Prop}{f:Flow}(g:GoX D st s st₁ s₁)(p:PostR P D st₁ s₁ Kr f s₂):PostR P D st s Kr f s₂:=by
 obtain ⟨v,mv,st',e,k,hv,S,g'⟩:=p
 exact ⟨v,mv,st',e,k,hv,S,g.trans g'⟩
theorem PostS.go{D:Nat->Prop}{st₁:St}{s₁ s₂:Shared}{Kn:ja->St->Prop}{Kr:MV->St->Prop}{f:Flow}(g:GoX D st s st₁ s₁)(p:PostS P kd env D st₁ s₁ Kn Kr f s₂):PostS P kd env D st s Kn Kr f s₂:=p.imp (fun p=>⟨p.1,p.2.go g⟩) fun p=>p.go g
theorem gu{D:Nat->Prop}{st₁:St}{s₁:Shared}{Kn:ja->St->Prop}{Kr:MV->St->Prop}{t:Sem Flow}(g:GoX D st s st₁ s₁)(h:wpAny (model prog w) A t (PostS P kd env D st₁ s₁ Kn Kr) NoE s₁) :
  wpAny (model prog w) A t (PostS P kd env D st s Kn Kr) NoE s₁:=wpAny_mono h (fun _ _ p=>p.go g) fun _ _ e=>e
theorem PostS.ofT{s':Shared}{Kn:ja->St->Prop}{Kr:MV->St->Prop}(p:PostT P kd env st s Kn s'):PostS P kd env (Fm env) st s Kn Kr .next s':=.inl ⟨rfl,p⟩
theorem jfo:Zi C A []:=by
 intro kd ss hc
 rw [Uh hc]
 intro P env ρ st s Kn Kr X S hw
 exact wpAny_execs_nil (.inl ⟨rfl,ρ,st,hw,X,S,GoX.refl⟩)
theorem jcC{x:MS}{xs:List MS}(hx:QA C A x)(hxs:Zi C A xs):Zi C A (x::xs):=by
 intro kd ss hc
 obtain ⟨e,r,z,h1,h2⟩:=GG hc
 rw [z]
 intro P env ρ st s Kn Kr X S hw
 refine wpAny_execs_cons (wpAny_mono (hx kd _ h1 P env ρ st s _ Kr X S hw) (fun f s₁ p=>?_) fun _ _ e=>e)
 rcases p with ⟨e,ρ',st',k,X',S',g⟩ | p
 ·rw [e];exact gu g (hxs kd _ h2 P env ρ' st' s₁ Kn Kr X' S' k)
 ·obtain ⟨v,mv,st',e,k,hv,S',g⟩:=p
  rw [e];exact .inr ⟨v,mv,st',rfl,k,hv,S',g⟩
theorem jcU(c:Ctx K C A){e:ME}:QA C A (.ret e):=by
 intro kd ss hc
 apply jhc hc;intro x _ z
 apply jbR (x:=x) z;intro x z
 clear hc
 have hc:=z
 intro P env ρ st s Kn Kr X S hw
 refine wpAny_Return_some (jz ((jv c e).1 kd _ hc P env ρ st s _ X S hw) fun mv v st₁ s₁ q hv S₁ g=>?_)
 exact .inr ⟨v,mv,st₁,rfl,q,hv,S₁,g.x (X.dead_there S)⟩
theorem vh(h:env.scope.kind=.function):interactive env=false:=by unfold interactive;rw [h];rfl
theorem O2(c:Ctx K C A){e:ME}:QA C A (.expr e):=by
 intro kd ss hc
 apply jgZ hc;intro e' pos z
 clear hc
 intro P env ρ st s Kn Kr X S hw
 have hc:=Jy z
 clear z
 refine wpAny_Expr (jz ((jv c e).1 kd _ hc.1 P env ρ st s _ X S hw) fun mv v st₁ s₁ q hv S₁ g=>?_) (vh X.fnk) ?_
 ·rw [q.1] at hv
  apply vIs hv
  exact .inl ⟨rfl,ρ,st₁,q.2,X.go S g,S₁,g.x (X.dead_there S)⟩
 ·have h1:=vx hc.1
  have h2:=hc.2
  clear hc
  cases e'<;>first | rfl | exact ff h1 | exact ff h2
theorem jbo(c:Ctx K C A){e:ME}{t o:List MS}(ht:Zi C A t)(ho:Zi C A o):QA C A (.ife e t o):=by
 intro kd ss hc
 apply jhK hc;intro x y z' _ z
 refine aE3 z fun h1 h2 h3=>?_
 intro P env ρ st s Kn Kr X S hw
 refine wpAny_If (yH ((jv c e).2 kd _ h1 P env ρ st s _ (fun b st'=>ifb b (jG C t ρ st' Kn Kr) (jG C o ρ st' Kn Kr)) (fun _ _ q=>q) X S hw) fun b st₁ s₁ q S₁ g=>?_)
 cases b with
 |true=>rw [if_pos rfl];exact gu (g.x (X.dead_there S)) (ht kd _ h2 P env ρ st₁ s₁ Kn Kr (X.go S g) S₁ q)
 |false=>rw [if_neg (by decide)];exact gu (g.x (X.dead_there S)) (ho kd _ h3 P env ρ st₁ s₁ Kn Kr (X.go S g) S₁ q)
end
theorem jbx(n:Nat):∀ (l:List Str),l.length≤n->l.eraseDups.length≤l.length:=by
 induction n with
 |zero=>intro l h;rw [List.length_eq_zero_iff.mp (Nat.le_zero.mp h)];exact Nat.le_refl _
 |succ n ih =>
  intro l h
  cases l with
  |nil=>exact Nat.le_refl _
  |cons a l =>
   rw [List.eraseDups_cons]
   have h1:=List.length_filter_le (fun b=>!b==a) l
   exact Nat.succ_le_succ (Nat.le_trans (ih _ (Nat.le_trans h1 (Nat.le_of_succ_le_succ h))) h1)
theorem Zd(n:Nat):∀ (l:List Str),l.length≤n->l.eraseDups.length=l.length->l.Nodup:=by
 induction n with
 |zero=>intro l h _;rw [List.length_eq_zero_iff.mp (Nat.le_zero.mp h)];exact List.nodup_nil
 |succ n ih =>
  intro l h he
  cases l with
  |nil=>exact List.nodup_nil
  |cons a l =>
   rw [List.eraseDups_cons] at he
   have he:=Nat.succ.inj he
   have h1:=List.length_filter_le (fun b=>!b==a) l
   have h3:=Nat.le_antisymm h1 (he▸jbx _ _ (Nat.le_refl _))
   have h5:=List.length_filter_eq_length_iff.mp h3
   rw [List.filter_eq_self.mpr h5] at he
   exact List.nodup_cons.mpr ⟨fun hm=>by have:=h5 a hm;simp at this,ih l (Nat.le_of_succ_le_succ h) he⟩
section
variable {P:Pm}{A:Around}{K:Frag}{C:jt}
variable {s:Shared}{st:St}{E:Value->Shared->Prop}{kd:Kd}{env:Env}{ρ:ja}
theorem jhj{kd:Kd}{t:MT}{ts:List Expr}{k:Nat}{p:Pos}(h:XQ kd t (.Tuple ts k p)=true):∃ mts,t=.tup mts:=by
 cases t with
 |tup mts=>exact ⟨_,rfl⟩
 |_=>exact ff h
theorem jgS{kd:Kd}{t:MT}{x:Str}{p:Pos}(h:XQ kd t (.Name x p)=true):∃ y,t=.var y:=by
 cases t with
 |var y=>exact ⟨_,rfl⟩
 |_=>exact ff h
theorem isC{kd:Kd}{me:ME}{el:Expr}{gs:List Comprehension}{sc:Scope}{p:Pos}(h:jB kd me (.ListComp el gs sc p)=true):∃ elt t it c tgt iter ifs,me=.comp elt t it c/\gs=[⟨tgt,iter,ifs,0⟩]:=by
 cases me with
 |comp elt t it c =>
  generalize he:Expr.ListComp el gs sc p=e at h
  revert he
  apply iC h;intro _ _ _ _ _ _ _ _ _ _ _ _ _ he
  cases he;exact ⟨_,_,_,_,_,_,_,rfl,rfl⟩
 |_=>exact ff h
theorem OU(c:Ctx K C A){mts:List MT}{ts:List Expr}{k:Nat}{p:Pos}{line:Nat}{st₁:St}{s₁:Shared}{mv:MV}{v:Value}{Kn:ja->St->Prop}{Kr:MV->St->Prop}(h1:XQ kd (.tup mts) (.Tuple ts k p)=true)(hlen:(ju env line ts).length=ts.length)(hdup:(ju env line ts).eraseDups.length=(ju env line ts).length)
  (X:EnvOk P kd env ρ s₁.heap) (S:Sim P st₁ s₁.heap) (hv:V P s₁.heap mv v) (q:Yr C (.tup mts) mv ρ st₁ Kn) (gx:GoX (Fm env) st s st₁ s₁) :
  wpAny (model prog w) A (rule "assign.swapped-stores">>=fun _=>unpackItems v (ju env line ts).length none>>=fun items=>assignInOrder ((ju env line ts).reverse.map fun n=>bindName env n) items.reverse>>=fun _=>pure Flow.next) (PostS P kd env (Fm env) st s Kn Kr) NoE s₁:=by
 obtain ⟨xs,e,hnames,hloc⟩:=gi (line:=line) X.kind h1 hlen
 have hd:=Zd _ _ (Nat.le_refl _) hdup
 rw [hnames] at hd ⊢
 have hnd:xs.Nodup:=(List.pairwise_map.mp hd).imp fun h q=>h (by rw [q])
 rw [e] at q
 refine wpAny_bind (wpAny_rule (wpAny_bind ?_))
 have hq:J2 mv (xs.map MT.var).length st₁ fun vs=>Y2 C (xs.map MT.var) vs ρ st₁ Kn:=q
 rw [List.length_map] at hq ⊢
 clear hlen hdup h1 q hnames hd
 refine qO c.hh S hv hq fun mvs vs h' k hm hvs kp=>?_
 have F:Pw (OV A env fun n=>kd n==some .local||kd n==some .cell) xs.reverse ((xs.map Str.ofString).reverse.map fun n=>bindName env n):=by
  rw [← List.map_reverse,List.map_map]
  have hl:∀ x∈xs.reverse,kd (Str.ofString x)=some .local:=fun x hx=>hloc x (List.mem_reverse.mp hx)
  revert hl
  induction xs.reverse with
  |nil=>intro _;exact .nil
  |cons x r ih=>intro hl;exact .cons ⟨by show (kd (Str.ofString x)==some .local||_)=true;rw [hl x (List.mem_cons_self ..)];rfl,fun h=>wpAny_bindName h⟩ (ih fun y hy=>hl y (List.mem_cons_of_mem _ hy))
 refine wpAny_bind (Vd vr X.dead F (s:={ s₁ with heap:=h' }) (ρ:=ρ) (mvs:=mvs.reverse) (X.keeps (S.monoK kp) fun a o _ e=>kp a o e) (S.keeps kp) hvs.reverse (by rw [List.length_reverse,List.length_reverse,hm]) fun h'' tk X'' S'' k''=>wpAny_pure ?_)
 rw [U7 hnd hm.symm] at X''
 exact .inl ⟨rfl,_,st₁,QM hm.symm k,X'',S'',gx.trans (Keeps.x fun b o nb e=>k'' b o nb (kp b o e))⟩
theorem jat(c:Ctx K C A){x:String}{p₀ cpos pos':Pos}{elt:ME}{tp:PT}{mi:MI}{cnd:Option ME}{elt' tgt iter:Expr}{ifs:List Expr}{sc:Scope}{Kn:ja->St->Prop}{Kr:MV->St->Prop}(hk:(kd (Str.ofString x)==some .local||kd (Str.ofString x)==some .cell)=true)(h2:jB kd (.comp elt tp mi cnd) (.ListComp elt' [⟨tgt,iter,ifs,0⟩] sc cpos)=true)
  (X:EnvOk P kd env ρ s.heap) (S:Sim P st s.heap) (hw:wpE C (.comp elt tp mi cnd) ρ st fun v st'=>Yr C (.var x) v ρ st' Kn) :
  wpAny (model prog w) A (comprehension (.ListComp elt' [⟨tgt,iter,ifs,0⟩] sc cpos) sc env pos' (newList []) false (eval iter env) (some fun v=>assignAll v [assign (.Name (Str.ofString x) p₀) env])) (fun _ s'=>PostS P kd env (Fm env) st s Kn Kr .next s') NoE s:=by
 refine jaQ h2 fun hsc hpa hpo hpt hit hel hif=>?_
 refine ZP (use:=some fun v=>assignAll v [assign (.Name (Str.ofString x) p₀) env]) (Qv:=fun _ s'=>PostS P kd env (Fm env) st s Kn Kr .next s') c (U8 c mi) (jv c elt).1 (fun c' h=>(jv c c').2) hsc hpa hpo hpt hit hel hif X S hw fun Ca D s' Z=>?_
 clear hsc hpa hpo hpt hit hel hif h2 hw
 obtain ⟨stf,offC,q,S',X',ns,f,n,g⟩:=Z
 obtain ⟨m,ns⟩:=ns
 have hFC:¬ Fm env Ca:=fun q=>n (X.dead _ q)
 show wpAny _ _ (assign (.Name (Str.ofString x) p₀) env (.ref D)) _ _ _
 refine wpAny_assign_Name (vr hk X' S' (v:=.ref D) rfl fun h' tk X'' S'' kp=>⟨m,UG ns fun o e=>kp _ o hFC e,fun h₃ hs=>?_⟩)
 refine .inl ⟨rfl,_,stf,q,X''.letC X.dead n hs,S''.letC n hs,?_,fun a o e nw nf=>hs.extBut a o (fun q=>nw (q▸f o (q▸e))) (kp a o nf (g.keep a o e nw)),fun a q=>(g.grow a q).imp id fun e=>⟨e,fun d=>(X.dead_there S a d).elim fun _ z=>no e z⟩⟩
 obtain ⟨h2,t2,e⟩:=g.same
 exact ⟨h₃,tk,by rw [e]⟩
theorem GI(c:Ctx K C A){t:MT}{e:ME}:QA C A (.assign t e):=by
 intro kd ss hc
 apply jho hc;intro ts e' pos z
 refine aE3 z fun h1 h2 h3=>?_
 apply ZT (l:=ts) h1;intro t' ht
 clear hc z h1
 intro P env ρ st s Kn Kr X S hw
 rw [PyProof.Rows.exec_Assign]
 refine wpAny_bind (wpAny_standAt ?_)
 rw [show (assignEach [t'] env).map (·.2)=[assign t' env] by rw [vq ht];rfl]
 have way:=jbg (line:=pos.line) (env:=env) h2 ht
 rcases way with h | ⟨h,x₀,p₀,et,elt',gens,sc,cpos,ee⟩
 ·refine wpAny_bind (wpAny_of_eq (show swapsWithSole [t'] e' pos.line env=pure false from h) ?_)
  rw [if_neg (by decide)]
  refine wpAny_bind (jz ((jv c e).1 kd _ h2 P env ρ st s _ X S hw) fun mv v st₁ s₁ q hv S₁ g=>?_)
  rcases Ze (env:=env) ht h3 with hs | ⟨ts,k,p,line,et,hs,hlen,hdup⟩
  ·refine wpAny_bind (wpAny_of_eq hs ?_)
   show wpAny _ _ (assignAll v [assign t' env]>>=fun _=>pure Flow.next) _ _ _
   exact wpAny_bind (wpAny_mono (jdo c t kd _ ht P env ρ st₁ s₁ mv v Kn (X.go S g) S₁ hv q) (fun _ s' p=>wpAny_pure (PostS.ofT (p.go (g.x (X.dead_there S))))) fun _ _ e=>e)
  ·refine wpAny_bind (wpAny_of_eq hs ?_)
   rw [et] at ht
   obtain ⟨mts,e⟩:=jhj ht
   rw [e] at ht q
   exact OU c ht hlen hdup (X.go S g) S₁ hv q (g.x (X.dead_there S))
 ·rw [et] at ht ⊢
  refine wpAny_bind (wpAny_of_eq (show swapsWithSole [.Name x₀ p₀] e' pos.line env=pure true from et▸h) ?_)
  rw [if_pos rfl]
  obtain ⟨x,e1⟩:=jgS ht
  rw [e1] at ht hw
  refine aE2 ht fun ha hk=>?_
  rw [beq_iff_eq.mp ha] at hk ⊢
  rw [ee] at h2 ⊢
  obtain ⟨elt,tp,mi,cnd,tgt,iter,ifs,e2,e3⟩:=isC h2
  rw [e2,e3] at h2
  rw [e2] at hw
  rw [e3]
  exact wpAny_bind (wpAny_bind (wpAny_mono (jat c hk h2 X S hw) (fun _ s' p=>wpAny_pure (wpAny_pure p)) fun _ _ e=>e))
inductive WLI (C:jt) (e:ME) (b:List MS) (P:Pm) (kd:Kd) (env:Env) (st:St) (s:Shared) (Kn:ja->St->Prop) (Kr:MV->St->Prop) (n:Nat) (s':Shared):Prop
 |mk (ρ':ja) (st':St) (h:XB (fun ρ st K=>wpT C e ρ st K) (fun ρ st K=>jG C b ρ st K Kr) n ρ' st' Kn) (X:EnvOk P kd env ρ' s'.heap) (S:Sim P st' s'.heap) (g:GoX (Fm env) st s st' s')
theorem oO(c:Ctx K C A){e:ME}{b:List MS}(hbd:Zi C A b):QA C A (.whil e b):=by
 intro kd ss hc
 apply jdK hc;intro x y z' _ z
 refine aE3 z fun z0 h1 h2=>?_
 apply gQ (l:=z') z0
 intro P env ρ st s Kn Kr X S hw
 obtain ⟨n,hw⟩:=hw
 refine wpAny_While (codeAny_whileLoop (WLI C e b P kd env st s Kn Kr) ?_ n ⟨ρ,st,hw,X,S,GoX.refl⟩)
 clear hw
 intro n s' Z
 obtain ⟨ρ',st',hw,X',S',G⟩:=Z
 cases n with
 |zero=>exact hw.elim
 |succ n =>
  refine up (yH ((jv c e).2 kd _ h1 P env ρ' st' s' _ (fun b' st₁=>ifb b' (jG C b ρ' st₁ (fun ρ'' st''=>XB (fun ρ st K=>wpT C e ρ st K) (fun ρ st K=>jG C b ρ st K Kr) n ρ'' st'' Kn) Kr) (Kn ρ' st₁)) (fun _ _ q=>q) X' S' hw) fun b' st₁ s₁ q S₁ g=>?_)
  have gx:=G.trans (g.x (X'.dead_there S'))
  cases b' with
  |true =>
   rw [if_pos rfl]
   refine up (wpAny_mono (hbd kd _ h2 P env ρ' st₁ s₁ _ Kr (X'.go S' g) S₁ q) (fun f s₂ p=>?_) fun _ _ e=>e)
   rcases p with ⟨e,ρ₂,st₂,k,X₂,S₂,g₂⟩ | p
   ·rw [e];exact ⟨n,Nat.lt_succ_self _,ρ₂,st₂,k,X₂,S₂,gx.trans g₂⟩
   ·have p:=p.go gx
    obtain ⟨v,mv,st₂,e,k,hv,S₂,g₂⟩:=p
    rw [e];exact .inr ⟨v,mv,st₂,rfl,k,hv,S₂,g₂⟩
  |false =>
   rw [if_neg (by decide)]
   exact wpAny_execs_nil (.inl ⟨rfl,ρ',st₁,q,X'.go S' g,S₁,gx⟩)
end
section
variable {P:Pm}{A:Around}{K:Frag}{C:jt}
variable {s:Shared}{st:St}{E:Value->Shared->Prop}{kd:Kd}{env:Env}{ρ:ja}
def jck(A:Around)(target:Expr)(body:List Stmt)(it:Value)(env:Env)(K:Shared->Prop)(Kr:Flow->Shared->Prop)(v:Value)(s:Shared):Prop :=
 wpAny (model prog w) A (letOwnedTupleGo target it v) (fun _ s₁=>wpAny (model prog w) A (assign target env v) (fun _ s₂=>wpAny (model prog w) A (execs body env) (fun f s₃=>(f=.next/\K s₃)\/Kr f s₃) NoE s₂) NoE s₁) NoE s
def jaL(R:Result->Shared->Prop)(f:Flow)(s:Shared):Prop:=∃ v,f=.ret v/\R (.ok (.ret v)) s
theorem VG{R:Result->Shared->Prop}{target:Expr}{body:List Stmt}{it:Value}(I:Nat->Shared->Prop)
  (turn:∀ n s,I n s->∀ Q:Option Value->Shared->Prop,(∀ s₁,R (.ok .next) s₁->Q none s₁)->(∀ v s₁,jck A target body it env (fun s=>∃ m,m<n/\I m s) (jaL R) v s₁->Q (some v) s₁)->wpAny (model prog w) A (pyNext it) Q NoE s)
  (n:Nat) (h:I n s):codeAny (model prog w) A (.forLoop target it body [] env) R s:=by
 refine codeAny_forLoop_any I (fun n s hI=>wpAny_mono (turn n s hI _ (fun s₁ h₁=>?_) fun v s₁ h₁=>?_) (fun _ _ q=>q) fun _ _ e=>e.elim) n h
 ·exact wpAny_execs_nil h₁
 ·refine wpAny_mono h₁ (fun _ _ h₂=>wpAny_mono h₂ (fun _ _ h₃=>wpAny_mono h₃ (fun f _ h₄=>?_) fun _ _ e=>e.elim) fun _ _ e=>e.elim) fun _ _ e=>e.elim
  rcases h₄ with ⟨e,h⟩ | ⟨v,e,h⟩
  ·rw [e];exact h
  ·rw [e];exact h
inductive FLI (W:Nat->ja->St->Prop) (len:Nat) (At:Nat->Heap->Prop) (P':Pm) (kd:Kd) (env:Env) (D:Nat->Prop) (st₁:St) (s₁:Shared) (n:Nat) (s:Shared):Prop
 | mk (i:Nat) (ρ:ja) (st:St) (e:n=len+1 - i) (hi:i≤len) (w:W i ρ st) (a:At i s.heap) (X:EnvOk P' kd env ρ s.heap) (S:Sim P' st s.heap) (G:GoX D st₁ s₁ st s)
def ZA(own:Nat->Prop)(env:Env)(a:Nat):Prop:=own a\/Fm env a
theorem QX(c:Ctx K C A){t:PT}{b:List MS}(hbd:Zi C A b){tgt:Expr}{b':List Stmt}(hpt:GM kd t tgt=true)(hcb:J5 kd b b'=true)
  {one:Bool}{own:Nat->Prop}{off:∀ a,own a->h₀.get? a=none}{pin:List Nat}{src:List (Nat×MObj)}{it:Addr}{xs:List MV}{At:Nat->Heap->Prop}{Mid:Nat->Value->Heap->Prop}
  (I:ItOk A (P.more own off) one own pin src it xs At Mid) (hshape:uG one tgt) (hnd:∀ a,own a->¬ P.dead a) (hF:∀ a,Fm env a->P.dead a)
  {Kn:ja->St->Prop}{Kr:MV->St->Prop}{R:Result->Shared->Prop}{st₁:St}{s₁:Shared}
  (hw:Jw src (fun x ρ st K=>yv t x ρ st fun ρ'=>jG C b ρ' st K Kr) xs ρ st₁ Kn) (hAt:At 0 s₁.heap) (X:EnvOk (P.more own off) kd env ρ s₁.heap) (S:Sim (P.more own off) st₁ s₁.heap)
  (hRn:∀ s',PostN P kd env (ZA own env) st₁ s₁ (fun ρ st=>ji src st/\Kn ρ st) s'->R (.ok .next) s') (hRr:∀ f s',PostR P (ZA own env) st₁ s₁ Kr f s'->jaL R f s') :
  codeAny (model prog w) A (.forLoop tgt (.ref it) b' [] env) R s₁:=by
 have hFo:∀ a,Fm env a->¬ own a:=fun a ha q=>hnd a q (hF a ha)
 have hd:∀ a,own a->(P.more own off).dead a:=fun a q=>.inr q
 refine VG (FLI (fun i ρ st=>Jw src (fun x ρ st K=>yv t x ρ st fun ρ'=>jG C b ρ' st K Kr) (xs.drop i) ρ st Kn) xs.length At (P.more own off) kd env (ZA own env) st₁ s₁) ?_ (xs.length+1) ⟨0,ρ,st₁,rfl,Nat.zero_le _,hw,hAt,X,S,GoX.refl⟩
 clear hw hAt X S
 intro n s' Z Q hn ht
 obtain ⟨i,ρᵢ,stᵢ,e,hi,hw,a,X,S,G⟩:=Z
 cases hx:xs[i]? with
 |none =>
  rw [ZD hx] at hw
  refine I.done _ i stᵢ s' _ S hw.1 a hx fun h₁ kp=>hn _ (hRn _ ⟨ρᵢ,stᵢ,hw,(X.keep (W:=own) kp hd hFo).less hF,S.atEnd kp hd fun a d=>⟨.inl d,fun q=>hnd a q d⟩,G.trans (Keeps.x fun b o nb e=>kp b o (fun q=>nb (.inl q)) e)⟩)
 |some x =>
  rw [Zw hx] at hw
  have hlt:i<xs.length:=(List.getElem?_eq_some_iff.mp hx).1
  have hst:=hw.1
  have hw:=hw.2
  refine I.next _ i stᵢ s' x _ S hst a hx fun v h₁ tk₁ hMid hVx kp₁=>ht _ _ ?_
  have S₁:=S.keepW kp₁ hd (I.aliveMid _ _ _ hMid)
  have X₁:=X.keep (W:=own) kp₁ hd hFo
  refine o9 (s:={ s' with heap:=h₁,toks:=tk₁ }) I hshape hMid fun h₂ a₂ kp₂=>?_
  have S₂:=S₁.keepW kp₂ hd (I.alive _ _ a₂)
  refine Gm (s:={ s' with heap:=h₂,toks:=tk₁ }) c.hh hpt (X₁.keep (W:=own) kp₂ hd hFo) S₂ (hVx.mono (Keeps.mono kp₂ hd)) hw fun ρ' h₃ tk₃ q X₃ S₃ kp₃=>?_
  have pinF:∀ a∈pin,¬ Fm env a:=fun a ha q=>I.pinD S₂ hst (.inl (hF a q)) ha
  have oF:∀ b,own b\/b∈pin->¬ Fm env b:=fun b q z=>q.elim (hFo b z) fun q=>pinF b q z
  have a₃:=I.atPut (fun b q=>.inl (hF b q)) oF a₂ kp₃
  have G₃:GoX (ZA own env) st₁ s₁ stᵢ { s' with heap:=h₃,toks:=tk₃ }:=G.trans (Keeps.x fun b o nb e=>kp₃ b o (fun q=>nb (.inr q)) (kp₂ b o (fun q=>nb (.inl q)) (kp₁ b o (fun q=>nb (.inl q)) e)))
  refine wpAny_mono (hbd kd _ hcb _ env ρ' stᵢ { s' with heap:=h₃,toks:=tk₃ } _ Kr X₃ S₃ q) (fun f s₄ p=>?_) fun _ _ e=>e
  have step:∀ {st₄},GoX (Fm env) stᵢ { s' with heap:=h₃,toks:=tk₃ } st₄ s₄->GoX (ZA own env) st₁ s₁ st₄ s₄:=fun g=>G₃.trans (g.mono (fun a q=>.inl (.inr q)) fun a q=>(S₃.dead a (q.elim .inr fun q=>.inl (hF a q))).1)
  rcases p with ⟨ef,ρ₄,st₄,k,X₄,S₄,g₄⟩ | ⟨u,mv,st₄,ef,k,hv,S₄,g₄⟩
  ·refine .inl ⟨ef,_,e▸GX hlt,i+1,ρ₄,st₄,rfl,hlt,k,I.keepAt _ _ _ a₃ (X₃.monoX S₃ g₄) fun b o q e=>g₄.keep b o e (fun n=>q.elim (fun q=>(Wn.no (S₃.dead b (.inr q)).2) n) fun q=>(I.pinned stᵢ _ S₃ hst b q).1 n) (oF b q),X₄,S₄,step g₄⟩
  ·exact .inr (hRr _ _ ⟨u,mv,st₄,ef,k,hv.less,S₄.less,step g₄⟩)
theorem OG(c:Ctx K C A){t:PT}{mi:MI}{b:List MS}(hbd:Zi C A b):QA C A (.fore t mi b):=by
 intro kd ss hc
 apply jgq hc;intro x y b' z' _ z
 refine aE5 z fun z0 hpo hpt hit hcb=>?_
 apply gQ (l:=z') z0
 intro P env ρ st s Kn Kr X S hw
 refine wpAny_For ?_ (qx hit)
 refine wpAny_mono (U8 c mi kd _ hit P env ρ st s _ X S hw) (fun v s₁ p=>?_) fun _ _ e=>e
 obtain ⟨xs,src,st₁,s₀,q,hst,S₀,g₀,hext,kp₀,Ib⟩:=p
 have X₀:=X.go S g₀
 refine ZE c.hh Ib S₀ hst kp₀ fun it own pin h₁ hfr hmk hal kp₁=>?_
 have kpa:∀ a o,s₀.heap.get? a=some o->h₁.get? a=some o:=fun a o e=>kp₁ a o (kp₀ a o e)
 have off:∀ a,own a->h₀.get? a=none:=fun a ha=>S₀.off (hfr a ha)
 obtain ⟨At,Mid,IO,hAt⟩:=hmk own off (fun a ha=>ha) hfr
 have back:∀ {stf:St}{s':Shared},GoX (ZA own env) st₁ { s₁ with heap:=h₁ } stf s'->GoX (Fm env) st s stf s':=fun G =>
  (g₀.x (X.dead_there S)).trans ((G.under (by obtain ⟨h,tk,e⟩:=hext;exact ⟨h₁,tk,by rw [e]⟩) kpa).mono (fun a q=>q.elim (fun q=>.inr (hfr a q)) .inl) (X₀.dead_there S₀))
 refine QX (off:=off) (s₁:={ s₁ with heap:=h₁ }) c hbd hpt hcb IO (QI hpo hpt) (fun a ha d=>(S₀.dead a d).1.elim fun _ e=>no (hfr a ha) e) X₀.dead q hAt (X₀.more hfr kpa) (S₀.more hfr kpa hal) (fun s' p=>?_) fun f s' p=>?_
 ·obtain ⟨ρf,stf,k,X',S',G'⟩:=p
  exact .inl ⟨rfl,ρf,stf,k.2,X',S',back G'⟩
 ·obtain ⟨u,mv,stf,e,k,hv,S',G'⟩:=p
  exact ⟨u,e,.inr ⟨u,mv,stf,rfl,k,hv,S',back G'⟩⟩
theorem o6{P:Pm}{h:Heap}{es:List (Int×MV)}{kvs:List (Int×Value)}(q:KvsAre P h es kvs):es.map (·.1)=kvs.map (·.1):=by
 refine Pw.ind (G:=fun es kvs=>es.map (·.1)=kvs.map (·.1)) rfl (fun f e es kvs z _ ih=>?_) q
 rw [List.map_cons,List.map_cons,z.1,ih]
theorem Sim.freeze{h:Heap}{r:Nat}{es:List (Int×MV)}(S:Sim P st h)(h1:st r=some (.idict es)):Sim P (st.put r (.fdict es)) h :=
 S.put (x:=r) h1 (.inl rfl) rfl (.inl rfl) (fun _ _ _ e=>e) (S.has h1) (show OW P h r es from S.rep _ _ h1)
theorem Sim.thaw{h:Heap}{r:Nat}{es:List (Int×MV)}(S:Sim P st h)(h1:st r=some (.fdict es)):Sim P (st.put r (.idict es)) h :=
 S.put (x:=r) h1 (.inl rfl) rfl (.inl rfl) (fun _ _ _ e=>e) (S.has h1) (show OW P h r es from S.rep _ _ h1)
theorem ux{st:St}{r a:Nat}{o:MObj}(w:Wn st r)(q:Wn (st.put r o) a):Wn st a:=(zo q).elim (fun q=>q▸w) id
theorem UK{D:Nat->Prop}{st₁ stf:St}{s₁ s':Shared}{h₁:Heap}{it r:Nat}{es:List (Int×MV)}(hr:st₁ r=some (.idict es))(fr:s₁.heap.get? it=none)(kp:∀ a o,s₁.heap.get? a=some o->h₁.get? a=some o)
  (G:GoX (fun a=>a=it\/D a) (st₁.put r (.fdict es)) { s₁ with heap:=h₁ } stf s'):GoX D st₁ s₁ (stf.put r (.idict es)) s':=by
 have w0:Wn st₁ r:=.of hr rfl
 exact ⟨G.same,fun a o e nw nf=>G.keep a o (kp a o e) (fun q=>nw (ux w0 q)) fun d=>d.elim (fun q=>no (q▸fr) e) nf,fun a qa=>(zo qa).elim (fun q=>.inl (q▸w0)) fun qa=>(G.grow a qa).imp (ux w0) fun q=>⟨yi kp q.1,fun d=>q.2 (.inr d)⟩⟩
theorem jaf(c:Ctx K C A){x:String}{e:ME}{b:List MS}(hbd:Zi C A b):QA C A (.ford x e b):=by
 intro kd ss hc
 apply jgq hc;intro t e' b' z' pos z
 refine aE5 z fun z0 z1 hce hset hcb=>?_
 apply gQ (l:=z') z0
 apply Yt (e:=t) z1;intro n p z1
 refine aE2 z1 fun z1 hk=>?_
 rw [beq_iff_eq.mp z1] at hk ⊢
 intro P env ρ st s Kn Kr X S hw
 refine wpAny_For ?_ (qx (mi:=.of e) (kd:=kd) ((Bool.and_eq_true _ _).mpr ⟨hce,hset⟩))
 refine jz ((jv c e).1 kd _ hce P env ρ st s _ X S hw) fun mv v st₁ s₁ q hv S₁ g=>?_
 obtain ⟨r,es,e1,hr,q⟩:=q
 rw [e1] at hv
 apply vIs hv
 have X₁:=X.go S g
 obtain ⟨kvs,hd,hbl,hkv⟩:=S₁.rep _ _ hr
 obtain ⟨ep,hd⟩:=hd.dictAt
 refine wpAny_pyIter_dict (Y0 S₁ c.sys hr) hd ?_
 have kp:=jf s₁.heap { cls:=.type "dict_keyiterator",data:=.fields #[.ref r,.int 0 0,.int kvs.length 0,.int ep 0] }
 have hnew:=j8 s₁.heap { cls:=.type "dict_keyiterator",data:=.fields #[.ref r,.int 0 0,.int kvs.length 0,.int ep 0] } rfl
 have hdp:=hd.push { cls:=.type "dict_keyiterator",data:=.fields #[.ref r,.int 0 0,.int kvs.length 0,.int ep 0] }
 generalize s₁.heap.push { cls:=.type "dict_keyiterator",data:=.fields #[.ref r,.int 0 0,.int kvs.length 0,.int ep 0] }=h₁ at kp hnew hdp ⊢
 have hfr:∀ a,a=s₁.heap.objs.size->s₁.heap.get? a=none:=fun a ha=>ha▸j3 _
 have off:∀ a,a=s₁.heap.objs.size->h₀.get? a=none:=fun a ha=>S₁.off (hfr a ha)
 have IO:=oP (A:=A) (P:=P.more _ off) (d:=r) (it:=s₁.heap.objs.size) (es:=es) (kvs:=kvs) (ep:=ep) c.hh (.inr rfl) (Nat.ne_of_lt hd.lt_size) (o6 hkv)
 refine QX (t:=.one x) (off:=off) (Kr:=fun _ _=>False) (kd:=kd) (tgt:=.Name (Str.ofString x) p) c hbd (show (Str.ofString x==Str.ofString x&&(kd (Str.ofString x)==some .local||kd (Str.ofString x)==some .cell))=true from (Bool.and_eq_true _ _).mpr ⟨beq_self_eq_true _,hk⟩) hcb IO (.inl ⟨_,_,rfl,rfl⟩) (fun a ha d=>(S₁.dead a d).1.elim fun _ e=>no (hfr a ha) e) X₁.dead q ⟨⟨_,hnew,rfl,rfl⟩,hdp⟩ (X₁.more hfr kp)
  ((S₁.freeze hr).more hfr kp fun a ha=>⟨_,ha▸hnew⟩) (fun s' p=>?_) fun f s' p=>?_
 ·obtain ⟨ρf,stf,k,X',S',G'⟩:=p
  exact .inl ⟨rfl,ρf,_,k.2,X',S'.thaw (k.1 _ (List.mem_cons_self ..)),(g.x (X.dead_there S)).trans (UK hr (j3 _) kp G')⟩
 ·obtain ⟨u,mv,stf,e,k,_⟩:=p
  exact k.elim
mutual
theorem jhe(c:Ctx K C A):∀ ms,QA C A ms
 |.assign t e=>GI c
 |.expr e=>O2 c
 |.ret e=>jcU c
 |.ife e t o=>jbo c (vF c t) (vF c o)
 |.whil e b=>oO c (vF c b)
 |.fore t it b=>OG c (vF c b)
 |.ford x e b=>jaf c (vF c b)
theorem vF(c:Ctx K C A):∀ mss,Zi C A mss
 |[]=>jfo
 |x::xs=>jcC (jhe c x) (vF c xs)
end
theorem jfV(F:Vp K)(n:Nat)(A:Around)(R:Room A n):COk (qj table classes n) A :=
 jbl F (fun n hC A R P kd b ss hc env ρ st s Kn Kr X S hw=>vF ⟨F,R.handled,by have:=R.units;w_up,hC A R⟩ b kd ss hc P env ρ st s Kn Kr X S hw) n A R
end
end Mine
namespace Mine
theorem uL{p P Q:Prop}[Decidable p](k:p->P)(l:¬p->Q):ifb (decide p) P Q:=by
 by_cases h:p
 ·rw [decide_eq_true h];exact k h
 ·rw [decide_eq_false h];exact l h
theorem jcW{b:Bool}{P Q:Prop}(k:b=true->P)(l:b=false->Q):ifb b P Q:=by
 cases b
 ·exact l rfl
 ·exact k rfl
theorem X1{P Q:Prop}(k:P):∃ b,MV.bool true=.bool b/\ifb b P Q:=⟨_,rfl,k⟩
theorem Jn{P Q:Prop}(k:Q):∃ b,MV.bool false=.bool b/\ifb b P Q:=⟨_,rfl,k⟩
theorem yQ{p P Q:Prop}[Decidable p](k:p->P)(l:¬p->Q):∃ b,MV.bool (decide p)=.bool b/\ifb b P Q:=⟨_,rfl,uL k l⟩
theorem JV{b:Bool}{P Q:Prop}(k:b=true->P)(l:b=false->Q):∃ b',MV.bool b=.bool b'/\ifb b' P Q:=⟨_,rfl,jcW k l⟩
def uQ(st:St)(ys:List MV)(K:MV->St->Prop):Prop:=∀ a,st a=Option.none->ys.length<jb/\K (.ref a) (st.put a (.list ys))
section
variable (C:jt) (ρ:ja) (K:MV->St->Prop) (Kn:ja->St->Prop) (Kr:MV->St->Prop)
abbrev kAt(st:St):MV->Prop:=fun v=>K v st
abbrev kB(st:St):Bool->Prop:=fun x=>K (.bool x) st
abbrev jfM(op:BOp)(a:MV):MV->St->Prop:=fun b st₂=>YN op a b st₂ K
abbrev jgQ(op:BOp)(r:ME):MV->St->Prop:=fun a st₁=>wpE C r ρ st₁ (jfM K op a)
abbrev jhA:MV->St->Prop:=fun v st'=>∃ s t,v=.str s/\opTab.lookup s=some t/\K (.tup (t.map .str)) st'
abbrev jhv:MV->St->Prop:=fun v st'=>∃ i,v=.int i/\K (.int (-i)) st'
abbrev jhf:MV->St->Prop:=fun v st'=>∃ b,v=.bool b/\K (.bool !b) st'
abbrev jbs(r:ME):MV->St->Prop:=fun a st₁=>∃ x,a=.bool x/\ifb x (wpE C r ρ st₁ K) (K (.bool false) st₁)
abbrev kOr(r:ME):MV->St->Prop:=fun a st₁=>∃ x,a=.bool x/\ifb x (K (.bool true) st₁) (wpE C r ρ st₁ K)
abbrev jhh(b o:ME):MV->St->Prop:=fun v st₁=>∃ x,v=.bool x/\ifb x (wpE C b ρ st₁ K) (wpE C o ρ st₁ K)
abbrev jhr:MV->St->Prop:=fun v st'=>K (.bool (isNone v)) st'
abbrev jft:MV->St->Prop:=fun v st'=>K (.bool (V6 v)) st'
abbrev jfW(op:COp)(a:MV):MV->St->Prop:=fun b st₂=>yo op a b st₂ (kB K st₂)
abbrev jhN(op:COp)(r:ME):MV->St->Prop:=fun a st₁=>wpE C r ρ st₁ (jfW K op a)
abbrev jgA(f:String):List MV->St->Prop:=fun vs st'=>C f vs st' K
abbrev kBc(f:String):List MV->St->Prop:=fun vs st'=>y4 f vs st' K
abbrev kMk:List MV->List (Nat×MObj)->St->Prop:=fun xs _ st'=>xs.length<jb/\jq st' (.list xs) K
abbrev jeG(m:String)(ov:MV)(st₁:St):List MV->St->Prop:=fun vs st₂=>jF ov st₁ st₂/\yF C ov m vs st₂ K
abbrev kMe(m:String)(args:List ME):MV->St->Prop:=fun ov st₁=>Yh ov m st₁/\J0 C args ρ st₁ (jeG C K m ov st₁)
abbrev jfy(a:String):MV->St->Prop:=fun ov st₁=>VB ov a st₁ (kAt K st₁)
abbrev jgs(ov:MV):MV->St->Prop:=fun iv st₂=>xT ov iv st₂ (kAt K st₂)
abbrev jhs(i:ME):MV->St->Prop:=fun ov st₁=>wpE C i ρ st₁ (jgs K ov)
abbrev jhD:List MV->St->Prop:=fun vs st'=>vs.length≤jb/\K (.tup vs) st'
abbrev jhd:List MV->St->Prop:=fun vs st'=>vs.length≤jb/\jq st' (.list vs) K
abbrev jfI(v:MV)(K:List MV->St->Prop):List MV->St->Prop:=fun vs st₂=>K (v::vs) st₂
abbrev kEs(r:List ME)(K:List MV->St->Prop):MV->St->Prop:=fun v st₁=>J0 C r ρ st₁ (jfI v K)
abbrev jfO(K:List MV->List (Nat×MObj)->St->Prop)(st:St):List MV->List (Nat×MObj)->Prop:=fun xs src=>K xs src st
abbrev kIt(K:List MV->List (Nat×MObj)->St->Prop):MV->St->Prop:=fun v st'=>Yk v st' (jfO K st')
abbrev kTs(ov v:MV):MV->St->Prop:=fun iv st₂=>Jb ov iv v st₂ fun st₃=>Kn ρ st₃
abbrev jfU(i:ME)(v:MV):MV->St->Prop:=fun ov st₁=>wpE C i ρ st₁ (kTs ρ Kn ov v)
abbrev jhB(a:String)(v:MV):MV->St->Prop:=fun ov st'=>JI ov a v st' fun st''=>Kn ρ st''
abbrev kTg(t:MT):MV->St->Prop:=fun v st'=>Yr C t v ρ st' Kn
abbrev jht(ts:List MT)(vs:List MV):ja->St->Prop:=fun ρ' st'=>Y2 C ts vs ρ' st' Kn
abbrev kEx:MV->St->Prop:=fun v st'=>v=.none/\Kn ρ st'
abbrev kIf(t o:List MS):MV->St->Prop:=fun v st'=>∃ b,v=.bool b/\ifb b (jG C t ρ st' Kn Kr) (jG C o ρ st' Kn Kr)
abbrev kSs(r:List MS):ja->St->Prop:=fun ρ' st'=>jG C r ρ' st' Kn Kr
abbrev jgk(t o rest:List MS)(st:St):Bool->Prop:=fun x=>∃ c,MV.bool x=.bool c/\ifb c (jG C t ρ st (kSs C Kn Kr rest) Kr) (jG C o ρ st (kSs C Kn Kr rest) Kr)
abbrev kAs(x:String)(r:List MS):MV->St->Prop:=fun v st'=>jG C r (yf ρ x v) st' Kn Kr
abbrev jgm(r:List MS):MV->St->Prop:=fun v st'=>v=.none/\jG C r ρ st' Kn Kr
abbrev jfZ(b:List MS)(st:St):ja->Prop:=fun ρ'=>jG C b ρ' st Kn Kr
abbrev jdm(t:PT)(b:List MS):MV->ja->St->(ja->St->Prop)->Prop:=fun x ρ st K=>yv t x ρ st (jfZ C K Kr b st)
abbrev jgR(t:PT)(b:List MS):List MV->List (Nat×MObj)->St->Prop:=fun xs src st₁=>Jw src (jdm C Kr t b) xs ρ st₁ Kn
abbrev OO(t:PT)(b r:List MS)(st:St):List MV->List (Nat×MObj)->Prop:=fun xs src=>Jw src (jdm C Kr t b) xs ρ st (kSs C Kn Kr r)
abbrev jcY(t:PT)(b r:List MS):MV->St->Prop:=fun v st'=>Yk v st' (OO C ρ Kn Kr t b r st')
abbrev kO(K':Option MV->St->Prop):MV->St->Prop:=fun v st₄=>K' (some v) st₄
abbrev jhu(elt:ME)(K':Option MV->St->Prop):MV->St->Prop:=fun bv st₃=>∃ b,bv=.bool b/\ifb b (wpE C elt ρ st₃ (kO K')) (K' Option.none st₃)
abbrev kC1(t:PT)(c elt:ME):MV->St->(Option MV->St->Prop)->Prop:=fun x st₂ K'=>y0 t x ρ st₂ fun ρ'=>wpE C c ρ' st₂ (jhu C ρ' elt K')
abbrev kC0(t:PT)(elt:ME):MV->St->(Option MV->St->Prop)->Prop:=fun x st₂ K'=>y0 t x ρ st₂ fun ρ'=>wpE C elt ρ' st₂ (kO K')
abbrev kCK:List MV->St->Prop:=fun ys st₅=>uQ st₅ ys K
end
section
variable {C:jt}{ρ:ja}{st:St}{K:MV->St->Prop}
theorem jeJ(k:K .none st):wpE C .none ρ st K:=k
theorem jaz{b}(k:K (.bool b) st):wpE C (.bool b) ρ st K:=k
theorem zH{i}(k:K (.int i) st):wpE C (.int i) ρ st K:=k
theorem jbf{x}(k:K (.str x) st):wpE C (.str x) ρ st K:=k
theorem ya{x v}(h:lk ρ x=some v)(k:K v st):wpE C (.var x) ρ st K:=⟨v,h,k⟩
theorem OY{x v}(k:K (.str v) st):wpE C (.gstr x v) ρ st K:=k
theorem G4{i}(k:wpE C i ρ st (jhA K)):wpE C (.optab i) ρ st K:=k
theorem Q7{op l r}(k:wpE C l ρ st (jgQ C ρ K op r)):wpE C (.bin op l r) ρ st K:=k
theorem jcZ{e}(k:wpE C e ρ st (jhv K)):wpE C (.neg e) ρ st K:=k
theorem jgB{e}(k:wpE C e ρ st (jhf K)):wpE C (.not e) ρ st K:=k
theorem jda{l r}(k:wpE C l ρ st (jbs C ρ K r)):wpE C (.and l r) ρ st K:=k
theorem jfD{l r}(k:wpE C l ρ st (kOr C ρ K r)):wpE C (.or l r) ρ st K:=k
theorem jdw{t b o}(k:wpE C t ρ st (jhh C ρ K b o)):wpE C (.ite t b o) ρ st K:=k
theorem jdu{e}(k:wpE C e ρ st (jhr K)):wpE C (.isn e) ρ st K:=k
theorem GF{e}(k:wpE C e ρ st (jft K)):wpE C (.isnn e) ρ st K:=k
theorem Xp{op l r}(k:wpE C l ρ st (jhN C ρ K op r)):wpE C (.cmp op l r) ρ st K:=k
theorem jfm{o₁ o₂ a b c}(k:wpE C a ρ st fun x st₁=>wpE C b ρ st₁ fun y st₂=>yo o₁ x y st₂ fun t=>ifb t (wpE C c ρ st₂ fun z st₃=>yo o₂ y z st₃ fun u=>K (.bool u) st₃) (K (.bool false) st₂)):wpE C (.cmp2 o₁ o₂ a b c) ρ st K:=k
theorem Qm{f args}(k:J0 C args ρ st (jgA C K f)):wpE C (.call f args) ρ st K:=k
theorem GW{f args}(k:J0 C args ρ st (kBc K f)):wpE C (.bcall f args) ρ st K:=k
theorem V5{it}(k:wpI C it ρ st (kMk K)):wpE C (.mklist it) ρ st K:=k
theorem U0{e}(k:wpE C e ρ st fun v st'=>∃ r es,v=.ref r/\st' r=some (.idict es)/\jq st' (.list (es.map fun e=>.int e.1)) K):wpE C (.mkdlist e) ρ st K:=k
theorem qH{o m args}(k:wpE C o ρ st (kMe C ρ K m args)):wpE C (.meth o m args) ρ st K:=k
theorem xz{o a}(k:wpE C o ρ st (jfy K a)):wpE C (.attr o a) ρ st K:=k
theorem xG{o i}(k:wpE C o ρ st (jhs C ρ K i)):wpE C (.sub o i) ρ st K:=k
theorem Ud{o lo} (k:wpE C o ρ st fun ov st₁=>wpE C lo ρ st₁ fun iv st₂=>∃ k:Int,iv=.int k/\(0≤k/\k<jP) /\
   ((∃ xs,ov=.tup xs/\(1≤k.toNat/\k.toNat≤xs.length)/\K (.tup (xs.drop k.toNat)) st₂)\/(∃ r xs,ov=.ref r/\st₂ r=some (.list xs)/\jq st₂ (.list (xs.drop k.toNat)) K))):wpE C (.sfrom o lo) ρ st K:=k
theorem jgM{o hi} (k:wpE C o ρ st fun ov st₁=>wpE C hi ρ st₁ fun iv st₂=>∃ k:Int,iv=.int k/\(0≤k/\k<jP) /\
   ((∃ xs:List Int,ov=.clist xs/\jq st₂ (.list ((xs.map .int).take k.toNat)) K)\/(∃ r xs,ov=.ref r/\st₂ r=some (.list xs)/\jq st₂ (.list (xs.take k.toNat)) K))):wpE C (.sto o hi) ρ st K:=k
theorem jfn{o}(k:wpE C o ρ st fun ov st₁=>∃ r xs,ov=.ref r/\st₁ r=some (.list xs)/\jq st₁ (.list xs.reverse) K):wpE C (.srev o) ρ st K:=k
theorem jdf{xs}(k:J0 C xs ρ st (jhD K)):wpE C (.tup xs) ρ st K:=k
theorem qN{xs}(k:J0 C xs ρ st (jhd K)):wpE C (.list xs) ρ st K:=k
theorem jal(k:jq st (.idict []) K):wpE C .idict0 ρ st K:=k
theorem OB(k:jq st (.tdict []) K):wpE C .tdict0 ρ st K:=k
theorem jbO{elt t it c}(k:wpI C it ρ st fun xs src st₁=>YB src (kC1 C ρ t c elt) xs [] st₁ (kCK K)):wpE C (.comp elt t it (some c)) ρ st K:=k
theorem jcn{elt t it}(k:wpI C it ρ st fun xs src st₁=>YB src (kC0 C ρ t elt) xs [] st₁ (kCK K)):wpE C (.comp elt t it Option.none) ρ st K:=k
theorem Jc{K:List MV->St->Prop}(k:K [] st):J0 C [] ρ st K:=k
theorem JY{e r}{K:List MV->St->Prop}(k:wpE C e ρ st (kEs C ρ r K)):J0 C (e::r) ρ st K:=k
theorem V3{e}{K:List MV->List (Nat×MObj)->St->Prop}(k:wpE C e ρ st (kIt K)):wpI C (.of e) ρ st K:=k
theorem Og{e}{K:List MV->List (Nat×MObj)->St->Prop}(k:wpE C e ρ st fun v st'=>∃ n:Int,v=.int n/\(0≤n/\n<jb)/\K ((List.range n.toNat).map fun i:Nat=>MV.int i) [] st'):wpI C (.range e) ρ st K:=k
theorem jcl{e}{K:List MV->List (Nat×MObj)->St->Prop}(k:wpE C e ρ st fun v st'=>∃ r xs,v=.ref r/\st' r=some (.list xs)/\K (Jl 0 xs) [(r,.list xs)] st'):wpI C (.enum e) ρ st K:=k
theorem gm{a b}{K:List MV->List (Nat×MObj)->St->Prop}(k:wpE C a ρ st fun v st₁=>wpE C b ρ st₁ fun u st₂=>gC v st₂ fun xs s₁=>gC u st₂ fun ys s₂=>K (List.zipWith (fun x y=>MV.tup [x,y]) xs ys) (s₁++s₂) st₂):wpI C (.zip a b) ρ st K:=k
end
section
variable {C:jt}{ρ:ja}{st:St}{Kn:ja->St->Prop}{Kr:MV->St->Prop}
theorem gF{x v}(k:let ρ':=yf ρ x v;Kn ρ' st):Yr C (.var x) v ρ st Kn:=k
theorem G2{o a v}(k:wpE C o ρ st (jhB ρ Kn a v)):Yr C (.attr o a) v ρ st Kn:=k
theorem Ga{o i v}(k:wpE C o ρ st (jfU C ρ Kn i v)):Yr C (.sub o i) v ρ st Kn:=k
theorem jeu{ts v}(k:J2 v ts.length st fun vs=>Y2 C ts vs ρ st Kn):Yr C (.tup ts) v ρ st Kn:=k
theorem jaj{t ts v vs}(k:Yr C t v ρ st (jht C Kn ts vs)):Y2 C (t::ts) (v::vs) ρ st Kn:=k
theorem jco{vs}(k:Kn ρ st):Y2 C [] vs ρ st Kn:=k
theorem yE{t e}(k:wpE C e ρ st (kTg C ρ Kn t)):wpS C (.assign t e) ρ st Kn Kr:=k
theorem vX{e}(k:wpE C e ρ st (kEx ρ Kn)):wpS C (.expr e) ρ st Kn Kr:=k
theorem Zz{e}(k:wpE C e ρ st Kr):wpS C (.ret e) ρ st Kn Kr:=k
theorem ZL{c t o}(k:wpE C c ρ st (kIf C ρ Kn Kr t o)):wpS C (.ife c t o) ρ st Kn Kr:=k
theorem Oh{c b}(k:∃ n,XB (fun ρ st K=>wpT C c ρ st K) (fun ρ st K=>jG C b ρ st K Kr) n ρ st Kn):wpS C (.whil c b) ρ st Kn Kr:=k
theorem qB{t it b}(k:wpI C it ρ st (jgR C ρ Kn Kr t b)):wpS C (.fore t it b) ρ st Kn Kr:=k
theorem jed{x e b} (k:wpE C e ρ st fun v st₁=>∃ r es,v=.ref r/\st₁ r=some (.idict es) /\
   Jw [(r,.fdict es)] (fun y ρ st K=>jG C b (yf ρ x y) st K (fun _ _=>False)) (es.map fun e=>.int e.1) ρ (st₁.put r (.fdict es)) fun ρ' st'=>Kn ρ' (st'.put r (.idict es))):wpS C (.ford x e b) ρ st Kn Kr:=k
theorem j6(k:Kn ρ st):jG C [] ρ st Kn Kr:=k
theorem jm{s r}(k:wpS C s ρ st (kSs C Kn Kr r) Kr):jG C (s::r) ρ st Kn Kr:=k
end
noncomputable def Xw:ME->Option String
 |.var x=>some x
 |_=>Option.none
noncomputable def Oi:ME->Option Nat
 |.int (.ofNat k)=>some k
 |_=>Option.none
noncomputable def jM(e:ME)(ρ:ja):Option MV:=match e with
 |.var x=>lk ρ x
 |.int i=>some (.int i)
 |.str x=>some (.str x)
 |.gstr _ x=>some (.str x)
 |.bool b=>some (.bool b)
 |.none=>some .none
 |.isn e=>(Xw e).bind fun x=>(lk ρ x).bind fun v=>some (.bool (isNone v))
 |.isnn e=>(Xw e).bind fun x=>(lk ρ x).bind fun v=>some (.bool (V6 v))
 |.sub o i=>(Xw o).bind fun x=>(Oi i).bind fun k=>(lk ρ x).bind fun v=>match v with
  |.tup xs=>xs[k]?
  |_=>Option.none
 |_=>Option.none
noncomputable def yI:List ME->ja->Option (List MV)
 |[],_=>some []
 |e::r,ρ=>(jM e ρ).bind fun v=>(yI r ρ).bind fun vs=>some (v::vs)
section
variable {C:jt}{ρ:ja}{st:St}{K:MV->St->Prop}{Kn:ja->St->Prop}{Kr:MV->St->Prop}
theorem nos{α:Type}{x:α}{G:Prop}(h:Option.none=some x):G:=nomatch h
theorem som{α:Type}{x y:α}{G:α->Prop}(h:some x=some y)(k:G x):G y:=Option.some.inj h▸k
theorem vS{e:ME}{x:String}(h:Xw e=some x):e=.var x:=by
 cases e<;>first | exact nos h | exact som (G:=fun y=>_=ME.var y) h rfl
theorem Ot{e:ME}{k:Nat}(h:Oi e=some k):e=.int k:=by
 cases e<;>first | exact nos h | skip
 cases i
 ·exact som (G:=fun y=>_=ME.int (Int.ofNat y)) h rfl
 ·exact nos h
theorem bnd{α β:Type}{o:Option α}{f:α->Option β}{v:β}(h:o.bind f=some v):∃ a,o=some a/\f a=some v:=Option.bind_eq_some_iff.mp h
theorem jgl{e v}(h:((Xw e).bind fun x=>(lk ρ x).bind fun v=>some (MV.bool (isNone v)))=some v)(k:K v st):wpE C (.isn e) ρ st K:=by
 obtain ⟨x,hx,h⟩:=bnd h
 obtain ⟨u,hu,h⟩:=bnd h
 cases h
 rw [vS hx];exact jdu (ya hu k)
theorem jgw{e v}(h:((Xw e).bind fun x=>(lk ρ x).bind fun v=>some (MV.bool (V6 v)))=some v)(k:K v st):wpE C (.isnn e) ρ st K:=by
 obtain ⟨x,hx,h⟩:=bnd h
 obtain ⟨u,hu,h⟩:=bnd h
 cases h
 rw [vS hx];exact GF (ya hu k)
theorem jfT{o i v} (h:((Xw o).bind fun x=>(Oi i).bind fun k=>(lk ρ x).bind fun v=>match v with
  |.tup xs=>xs[k]?
  |_=>Option.none)=some v) (k:K v st):wpE C (.sub o i) ρ st K:=by
 obtain ⟨x,hx,h⟩:=bnd h
 obtain ⟨n,hn,h⟩:=bnd h
 obtain ⟨u,hu,h⟩:=bnd h
 rw [vS hx,Ot hn]
 cases u with
 |tup xs=>exact xG (ya hu (zH (SubR.t (Int.natCast_nonneg _) h k)))
 |_=>cases h
theorem a_s{e v}(h:jM e ρ=some v)(k:K v st):wpE C e ρ st K:=by
 have z:∀ {u},some u=some v->K u st:=fun h=>(Option.some.inj h).symm▸k
 cases e<;>first | exact nos h | exact z h | exact ya h k | exact jgl h k | exact jgw h k | exact jfT h k
theorem GH{es}:∀ {vs}{K:List MV->St->Prop},yI es ρ=some vs->K vs st->J0 C es ρ st K:=by
 induction es with
 |nil=>exact fun h k=>Jc ((Option.some.inj h).symm▸k)
 |cons e r ih =>
  intro vs K h k
  obtain ⟨v,hv,h⟩:=bnd h
  obtain ⟨us,hu,h⟩:=bnd h
  have k:K (v::us) st:=(Option.some.inj h).symm▸k
  exact JY (a_s hv (ih hu k))
theorem zU{f args vs}(h:yI args ρ=some vs)(k:C f vs st K):wpE C (.call f args) ρ st K:=Qm (GH h k)
theorem o7{f args vs}(h:yI args ρ=some vs)(k:y4 f vs st K):wpE C (.bcall f args) ρ st K:=GW (GH h k)
theorem jdy{op l r a b}(h:jM l ρ=some a)(h':jM r ρ=some b)(k:YN op a b st K):wpE C (.bin op l r) ρ st K:=Q7 (a_s h (a_s h' k))
theorem jbc{op l r a b}(h:jM l ρ=some a)(h':jM r ρ=some b)(k:yo op a b st (kB K st)):wpE C (.cmp op l r) ρ st K:=Xp (a_s h (a_s h' k))
theorem um{o a ov}(h:jM o ρ=some ov)(k:VB ov a st (kAt K st)):wpE C (.attr o a) ρ st K:=xz (a_s h k)
theorem jeQ{o i ov iv}(h:jM o ρ=some ov)(h':jM i ρ=some iv)(k:xT ov iv st (kAt K st)):wpE C (.sub o i) ρ st K:=xG (a_s h (a_s h' k))
theorem uA{o m args ov}(h:jM o ρ=some ov)(k:Yh ov m st/\J0 C args ρ st (jeG C K m ov st)):wpE C (.meth o m args) ρ st K:=qH (a_s h k)
theorem OQ{e v}{K:List MV->List (Nat×MObj)->St->Prop}(h:jM e ρ=some v)(k:Yk v st (jfO K st)):wpI C (.of e) ρ st K:=V3 (a_s h k)
theorem jdN{xs vs}(h:yI xs ρ=some vs)(k:vs.length≤jb/\K (.tup vs) st):wpE C (.tup xs) ρ st K:=jdf (GH h k)
theorem jcP{xs vs}(h:yI xs ρ=some vs)(k:vs.length≤jb/\jq st (.list vs) K):wpE C (.list xs) ρ st K:=qN (GH h k)
theorem jek{x e v r}(h:jM e ρ=some v)(k:let ρ':=yf ρ x v;jG C r ρ' st Kn Kr):jG C (.assign (.var x) e::r) ρ st Kn Kr:=jm (yE (a_s h k))
theorem jez{e v r}(h:jM e ρ=some v)(k:Kr v st):jG C (.ret e::r) ρ st Kn Kr:=jm (Zz (a_s h k))
theorem jdC{x f args vs r}(h:yI args ρ=some vs)(k:C f vs st (kAs C ρ Kn Kr x r)):jG C (.assign (.var x) (.call f args)::r) ρ st Kn Kr:=jm (yE (zU h k))
theorem jao{op l r a b t o rest}(h:jM l ρ=some a)(h':jM r ρ=some b)(k:yo op a b st (jgk C ρ Kn Kr t o rest st)) :
  jG C (.ife (.cmp op l r) t o::rest) ρ st Kn Kr:=jm (ZL (jbc h h' k))
theorem Qw{o a r c d fs v}(h:jM o ρ=some (.ref r))(h1:st r=some (.inst c d fs))(e:lkF fs a=some v)(k:K v st):wpE C (.attr o a) ρ st K:=um h (AttrR.mk h1 e k)
theorem jbY{x o a r c d fs v rs}(h:jM o ρ=some (.ref r))(h1:st r=some (.inst c d fs))(e:lkF fs a=some v)(k:let ρ':=yf ρ x v;jG C rs ρ' st Kn Kr):jG C (.assign (.var x) (.attr o a)::rs) ρ st Kn Kr:=jm (yE (Qw h h1 e k))
theorem jel{l r x t o rest}(h:jM l ρ=some (.str x))(h':jM r ρ=some (.str x))(k:jG C t ρ st (kSs C Kn Kr rest) Kr):jG C (.ife (.cmp .eq l r) t o::rest) ρ st Kn Kr :=
 jao h h' (CmpR.eq (EqR.str (by rw [decide_eq_true rfl];exact ⟨true,rfl,k⟩)))
theorem jaI{l r x y t o rest}(h:jM l ρ=some (.str x))(h':jM r ρ=some (.str y))(n:x≠y)(k:jG C o ρ st (kSs C Kn Kr rest) Kr):jG C (.ife (.cmp .eq l r) t o::rest) ρ st Kn Kr :=
 jao h h' (CmpR.eq (EqR.str (by rw [decide_eq_false n];exact ⟨false,rfl,k⟩)))
theorem jbk{l r x y t rest}(h:jM l ρ=some (.str x))(h':jM r ρ=some (.str y))(n:x≠y)(k:jG C rest ρ st Kn Kr):jG C (.ife (.cmp .eq l r) t []::rest) ρ st Kn Kr:=jaI h h' n k
theorem jch{f args vs r}(h:yI args ρ=some vs)(k:C f vs st (jgm C ρ Kn Kr r)):jG C (.expr (.call f args)::r) ρ st Kn Kr:=jm (vX (zU h k))
theorem jbJ{o m args ov vs r}(h:jM o ρ=some ov)(h':yI args ρ=some vs)(k:Yh ov m st/\jF ov st st/\yF C ov m vs st (jgm C ρ Kn Kr r)):jG C (.expr (.meth o m args)::r) ρ st Kn Kr :=
 jm (vX (uA h ⟨k.1,GH h' k.2⟩))
theorem jcD{t e b v r}(h:jM e ρ=some v)(k:Yk v st (OO C ρ Kn Kr t b r st)):jG C (.fore t (.of e) b::r) ρ st Kn Kr:=jm (qB (OQ h k))
theorem jcN{t f args b vs r}(h:yI args ρ=some vs)(k:C f vs st (jcY C ρ Kn Kr t b r)) :
  jG C (.fore t (.of (.call f args)) b::r) ρ st Kn Kr:=jm (qB (V3 (zU h k)))
theorem jeU{f args vs r}(h:yI args ρ=some vs)(k:C f vs st Kr):jG C (.ret (.call f args)::r) ρ st Kn Kr:=jm (Zz (zU h k))
theorem jex{o a r c d fs v rs}(h:jM o ρ=some (.ref r))(h1:st r=some (.inst c d fs))(e:lkF fs a=some v)(k:Kr v st):jG C (.ret (.attr o a)::rs) ρ st Kn Kr:=jm (Zz (Qw h h1 e k))
def Ev(e:ME)(ρ:ja)(st:St)(v:MV):Prop:=∀ (C:jt) (K:MV->St->Prop),K v st->wpE C e ρ st K
def Evs(es:List ME)(ρ:ja)(st:St)(vs:List MV):Prop:=∀ (C:jt) (K:List MV->St->Prop),K vs st->J0 C es ρ st K
theorem jhM{e v}(h:jM e ρ=some v):Ev e ρ st v:=fun _ _ k=>a_s h k
theorem jgu{o a r c d fs v}(h:Ev o ρ st (.ref r))(h1:st r=some (.inst c d fs))(e:lkF fs a=some v):Ev (.attr o a) ρ st v:=fun _ _ k=>xz (h _ _ (AttrR.mk h1 e k))
theorem jeK{l r x y}(h:Ev l ρ st (.int x))(h':Ev r ρ st (.int y)):Ev (.bin .add l r) ρ st (.int (x+y)):=fun _ _ k=>Q7 (h _ _ (h' _ _ (BinR.addi k)))
theorem jgJ{es vs}(h:yI es ρ=some vs):Evs es ρ st vs:=fun _ _ k=>GH h k
theorem jgi{e es v vs}(h:Ev e ρ st v)(h':Evs es ρ st vs):Evs (e::es) ρ st (v::vs):=fun _ _ k=>JY (h _ _ (h' _ _ k))
theorem jgn{es vs}{K:List MV->St->Prop}(h:Evs es ρ st vs)(k:K vs st):J0 C es ρ st K:=h _ _ k
theorem uo{f es vs}(h:Evs es ρ st vs)(k:C f vs st K):wpE C (.call f es) ρ st K:=Qm (h _ _ k)
theorem O7{x f es vs r}(h:Evs es ρ st vs)(k:C f vs st (kAs C ρ Kn Kr x r)):jG C (.assign (.var x) (.call f es)::r) ρ st Kn Kr:=jm (yE (uo h k))
theorem UJ{t f es b vs r}(h:Evs es ρ st vs)(k:C f vs st (jcY C ρ Kn Kr t b r)) :
  jG C (.fore t (.of (.call f es)) b::r) ρ st Kn Kr:=jm (qB (V3 (uo h k)))
theorem jcg{t e b v r}(h:Ev e ρ st v)(k:Yk v st (OO C ρ Kn Kr t b r st)):jG C (.fore t (.of e) b::r) ρ st Kn Kr:=jm (qB (V3 (h _ _ k)))
theorem jae{f es vs r}(h:Evs es ρ st vs)(k:C f vs st Kr):jG C (.ret (.call f es)::r) ρ st Kn Kr:=jm (Zz (uo h k))
theorem jbt{o a v ov}(h:Ev o ρ st ov)(k:JI ov a v st fun st'=>Kn ρ st'):Yr C (.attr o a) v ρ st Kn:=G2 (h _ _ k)
theorem jaJ{o i v ov iv}(h:Ev o ρ st ov)(h':Ev i ρ st iv)(k:Jb ov iv v st fun st'=>Kn ρ st'):Yr C (.sub o i) v ρ st Kn:=Ga (h _ _ (h' _ _ k))
theorem jbj{o i ov iv}(h:Ev o ρ st ov)(h':Ev i ρ st iv)(k:xT ov iv st (kAt K st)):wpE C (.sub o i) ρ st K:=xG (h _ _ (h' _ _ k))
theorem uX{op l r a b}(h:Ev l ρ st a)(h':Ev r ρ st b)(k:yo op a b st (kB K st)):wpE C (.cmp op l r) ρ st K:=Xp (h _ _ (h' _ _ k))
theorem jcQ{op l r a b t o rest}(h:Ev l ρ st a)(h':Ev r ρ st b)(k:yo op a b st (jgk C ρ Kn Kr t o rest st)) :
  jG C (.ife (.cmp op l r) t o::rest) ρ st Kn Kr:=jm (ZL (uX h h' k))
theorem jcI{op l r a b}(h:Ev l ρ st a)(h':Ev r ρ st b)(k:YN op a b st K):wpE C (.bin op l r) ρ st K:=Q7 (h _ _ (h' _ _ k))
theorem jay{o m es ov}(h:Ev o ρ st ov)(k:Yh ov m st/\J0 C es ρ st (jeG C K m ov st)):wpE C (.meth o m es) ρ st K:=qH (h _ _ k)
end
theorem ble{n m:Nat}(h:Nat.ble n m=true):n≤m:=Nat.le_of_ble_eq_true h
def Lx(X:List Nat)(st st':St):Prop:=∀ a o,a∉X->st a=some o->st' a=some o
abbrev Le(st st':St):Prop:=∀ a o,st a=some o->st' a=some o
theorem Le.refl{st:St}:Le st st:=fun _ _ e=>e
theorem Le.trans{st st' st'':St}(x:Le st st')(y:Le st' st''):Le st st'':=fun a o e=>y a o (x a o e)
theorem Le.back{st st':St}(x:Le st st'){a:Nat}(e:st' a=none):st a=none:=by
 cases z:st a with
 |none=>rfl
 |some o=>rw [x a o z] at e;cases e
set_option tactic.hygienic true in
theorem Le.new{st:St}{a:Nat}{o:MObj}(e:st a=Option.none):Le st (st.put a o):=fun b ob eb=>by
 unfold St.put
 split
 ·rename_i h;subst h;rw [e] at eb;cases eb
 ·exact eb
theorem qu{a b:List MV}:(MObj.list a=MObj.list b)=(a=b):=propext ⟨fun h=>by cases h;rfl,fun h=>by rw [h]⟩
theorem yk{st:St}{a:Nat}{o:MObj}:(st.put a o) a=some o:=by simp [St.put]
theorem oY{st:St}{a b:Nat}{o:MObj}(h:b≠a):(st.put a o) b=st b:=by simp [St.put,h]
set_option tactic.hygienic true in
theorem Le.put{st st':St}{a:Nat}{o:MObj}(x:Le st st')(e:st a=Option.none):Le st (st'.put a o):=fun b ob eb=>by
 unfold St.put
 split
 ·rename_i h;subst h;rw [e] at eb;cases eb
 ·exact x b ob eb
theorem jw{st:St}{a b:Nat}{o:MObj}(h:st b=none)(e:st a=some o):a≠b:=fun x=>by rw [x,h] at e;cases e
theorem Lx.refl{X}{st:St}:Lx X st st:=fun _ _ _ e=>e
theorem Lx.of{X}{st st':St}(x:Le st st'):Lx X st st':=fun a o _ e=>x a o e
theorem Lx.le{st st':St}(x:Lx [] st st'):Le st st':=fun a o e=>x a o (by simp) e
theorem Lx.trans{X}{st st' st'':St}(x:Lx X st st')(y:Lx X st' st''):Lx X st st'':=fun a o n e=>y a o n (x a o n e)
theorem Lx.mono{X Y:List Nat}{st st':St}(x:Lx X st st')(h:∀ a∈X,a∈Y):Lx Y st st':=fun a o n e=>x a o (fun m=>n (h a m)) e
theorem Lx.put{X}{st st':St}{a:Nat}{o:MObj}(x:Lx X st st')(m:a∈X):Lx X st (st'.put a o):=fun b ob n e=>by
 rw [oY (fun h:b=a=>n (by rw [h];exact m))];exact x b ob n e
abbrev Ret(st:St)(o:MObj)(K:MV->St->Prop):Prop:=∀ a st',Le st st'->st a=none->st' a=some o->K (.ref a) st'
theorem Ret.le{st st':St}{o:MObj}{K}(h:Ret st o K)(l:Le st st'):Ret st' o K:=fun a st'' l' n e=>h a st'' (l.trans l') (l.back n) e
theorem al{st:St}{o:MObj}{K:MV->St->Prop}(k:Ret st o K):jq st o K:=fun a n=>k a _ (Le.new n) n yk
noncomputable abbrev jc(rs:List Nat):List MV:=rs.map fun r:Nat=>MV.int (r:Int)
theorem Q3{x:Nat}{rs:List Nat}:(x:Int)∈rs.map (fun r:Nat=>(r:Int))↔x∈rs:=by
 rw [List.mem_map]
 exact ⟨fun ⟨y,h,e⟩=>Int.ofNat.inj e▸h,fun h=>⟨x,h,rfl⟩⟩
theorem xE(rs:List Nat):jc rs=(rs.map fun r:Nat=>(r:Int)).map .int:=by rw [List.map_map];rfl
noncomputable def lkN{α:Type}:List (Nat×α)->Nat->Option α
 |[],_=>.none
 | (y,v)::r,x=>if y=x then some v else lkN r x
noncomputable def j5{α:Type}:List (Nat×α)->Nat->α->List (Nat×α)
 |[],x,v=>[(x,v)]
 | (y,u)::r,x,v=>if y=x then (y,v)::r else (y,u)::j5 r x v
noncomputable def dN(f:α->MV)(d:List (Nat×α)):List (Int×MV):=d.map fun p=>((p.1:Int),f p.2)
section
variable {α:Type}{f:α->MV}{x y:Nat}{v:α}
theorem xr{r:List (Nat×α)}:lkN ((y,v)::r) x=if y=x then some v else lkN r x:=rfl
theorem xL{u:α}{r:List (Nat×α)}:j5 ((y,u)::r) x v=if y=x then (y,v)::r else (y,u)::j5 r x v:=rfl
theorem jaZ(h:¬ y=x):¬ ((y:Int)=(x:Int)):=fun e=>h (Int.ofNat.inj e)
theorem vH{d:List (Nat×α)}:lkD (dN f d) (x:Int)=(lkN d x).map f:=by
 induction d with
 |nil=>rfl
 |cons p r ih =>
  obtain ⟨y,v⟩:=p
  show (if (y:Int)=(x:Int) then some (f v) else lkD (dN f r) (x:Int))=_
  rw [xr]
  by_cases h:y=x
  ·rw [if_pos h,if_pos (congrArg _ h)];rfl
  ·rw [if_neg h,if_neg (jaZ h),ih]
theorem G0{d:List (Nat×α)}:Ju (dN f d) (x:Int) (f v)=dN f (j5 d x v):=by
 induction d with
 |nil=>rfl
 |cons p r ih =>
  obtain ⟨y,u⟩:=p
  show (if (y:Int)=(x:Int) then ((y:Int),f v)::dN f r else ((y:Int),f u)::Ju (dN f r) (x:Int) (f v))=_
  rw [xL]
  by_cases h:y=x
  ·rw [if_pos h,if_pos (congrArg _ h)];rfl
  ·rw [if_neg h,if_neg (jaZ h),ih];rfl
theorem qG{d:List (Nat×α)}:(dN f d).length=d.length:=List.length_map ..
theorem JE{d:List (Nat×α)}:lkN (j5 d x v) y=if x=y then some v else lkN d y:=by
 induction d with
 |nil=>rfl
 |cons p r ih =>
  obtain ⟨z,u⟩:=p
  rw [xL,xr]
  by_cases h:z=x
  ·rw [if_pos h,xr,h]
   by_cases q:x=y
   ·rw [if_pos q,if_pos q]
   ·rw [if_neg q,if_neg q,if_neg q]
  ·rw [if_neg h,xr,ih]
   by_cases q:z=y
   ·rw [if_pos q,if_pos q,if_neg fun e=>h (q.trans e.symm)]
   ·rw [if_neg q,if_neg q]
theorem Ye{d:List (Nat×α)}:(j5 d x v).length≤d.length+1:=by
 induction d with
 |nil=>exact Nat.le_refl _
 |cons p r ih =>
  obtain ⟨y,u⟩:=p
  rw [xL]
  by_cases h:y=x
  ·rw [if_pos h];exact Nat.le_succ _
  ·rw [if_neg h];exact Nat.succ_le_succ ih
theorem lkN_isSome{d:List (Nat×α)}:(lkN d x).isSome↔x∈d.map (·.1):=by
 induction d with
 |nil=>exact ⟨fun h=>(nomatch h),fun h=>(nomatch h)⟩
 |cons p r ih =>
  obtain ⟨y,u⟩:=p
  rw [xr,List.map_cons,List.mem_cons,← ih]
  by_cases h:y=x
  ·rw [if_pos h];exact ⟨fun _=>.inl h.symm,fun _=>rfl⟩
  ·rw [if_neg h];exact ⟨.inr,fun q=>q.elim (fun q=>absurd q.symm h) id⟩
theorem Zy{d:List (Nat×α)}:(j5 d x v).map (·.1)=if x∈d.map (·.1) then d.map (·.1) else d.map (·.1)++[x]:=by
 induction d with
 |nil=>rfl
 |cons p r ih =>
  obtain ⟨y,u⟩:=p
  rw [xL,List.map_cons]
  by_cases h:y=x
  ·rw [if_pos h,if_pos (List.mem_cons.mpr (.inl h.symm))];rfl
  ·rw [if_neg h,List.map_cons,ih]
   by_cases q:x∈r.map (·.1)
   ·rw [if_pos q,if_pos (List.mem_cons_of_mem _ q)]
   ·rw [if_neg q,if_neg fun m=>(List.mem_cons.mp m).elim (fun e=>h e.symm) q];rfl
end
section
variable {C:jt}{ρ:ja}{st:St}{K:MV->St->Prop}{Q:MV->Prop}{B:Bool->Prop}
theorem Q2{x y:Int}(k:K (.int (x+y)) st):YN .add (.int x) (.int y) st K:=BinR.addi k
theorem jdM{x:Nat}(k:K (.int ((x+1:Nat):Int)) st):YN .add (.int x) (.int 1) st K:=BinR.addi (x:=(x:Int)) (y:=1) k
theorem jeX{x:Nat}(k:K (.int (x:Int)) st):YN .sub (.int ((x+1:Nat):Int)) (.int 1) st K:=by
 have e:((x+1:Nat):Int) - 1=(x:Int):=by w_up
 refine BinR.sub ?_
 rw [e];exact k
theorem jdi{x y:Int}(h : -jP<x/\x<jP/\-jP<y/\y<jP)(k:K (.int (x*y)) st):YN .mul (.int x) (.int y) st K:=BinR.mul h k
theorem u9{x y:Int}(h:0<y)(k:K (.int (x % y)) st):YN .mod (.int x) (.int y) st K:=BinR.mod h k
theorem jeR{x y:Int}(h:0<y/\y<1073741824)(k:K (.int (x / y)) st):YN .fdiv (.int x) (.int y) st K:=BinR.fdiv h k
theorem uJ{q:Nat}(h:q<4096)(k:K (.int ((2 ^ q:Nat):Int)) st):YN .shl (.int 1) (.int q) st K:=by
 refine BinR.shl ⟨by decide,by decide,Int.natCast_nonneg _,by unfold Xs;w_up⟩ ?_
 have e:(1:Int)*2 ^ (q:Int).toNat=((2 ^ q:Nat):Int):=by simp
 rw [e];exact k
theorem jah{m q:Nat}(h:q<1000000)(k:K (.int ((m >>> q:Nat):Int)) st):YN .shr (.int m) (.int q) st K:=by
 refine BinR.shr ⟨Int.natCast_nonneg _,Int.natCast_nonneg _,by unfold jP;w_up⟩ ?_
 have e:(m:Int) / 2 ^ (q:Int).toNat=((m >>> q:Nat):Int):=by simp [Nat.shiftRight_eq_div_pow]
 rw [e];exact k
theorem O1{m q:Nat}(k:K (.int ((m &&& q:Nat):Int)) st):YN .band (.int m) (.int q) st K:=BinR.band ⟨Int.natCast_nonneg _,Int.natCast_nonneg _⟩ k
theorem jcx{m:Nat}(k:K (.int ((m &&& 1:Nat):Int)) st):YN .band (.int m) (.int 1) st K:=O1 (q:=1) k
theorem jgv{m q:Nat}(k:K (.int ((m ||| q:Nat):Int)) st):YN .bor (.int m) (.int q) st K:=BinR.bor ⟨Int.natCast_nonneg _,Int.natCast_nonneg _⟩ k
theorem jdW{m q:Nat}(k:K (.int ((m ^^^ q:Nat):Int)) st):YN .bxor (.int m) (.int q) st K:=BinR.bxor ⟨Int.natCast_nonneg _,Int.natCast_nonneg _⟩ k
theorem xx{r t:Nat}{xs ys:List MV}(h:st r=some (.list xs))(h':st t=some (.list ys))(l:xs.length+ys.length<jb)(k:Ret st (.list (xs++ys)) K):YN .add (.ref r) (.ref t) st K:=BinR.addl h h' l (al k)
theorem o0{r n:Nat}{x:MV}(h:st r=some (.list [x]))(l:n<jb)(k:Ret st (.list (List.replicate n x)) K):YN .mul (.ref r) (.int n) st K:=BinR.rep h ⟨Int.natCast_nonneg _,by w_up⟩ (al k)
theorem vm{x y:Int}(k:B (decide (x=y))):yo .eq (.int x) (.int y) st B:=CmpR.eq (EqR.int k)
theorem GY{x y:Nat}(k:B (decide (x=y))):yo .eq (.int x) (.int y) st B:=by
 refine CmpR.eq (EqR.int ?_)
 have e:((x:Int)=(y:Int))=(x=y):=propext ⟨fun h=>by w_up,fun h=>by w_up⟩
 simp only [e];exact k
theorem QZ{x y:Nat}(k:B (decide (x≠y))):yo .ne (.int x) (.int y) st B:=by
 refine CmpR.ne ?_
 have e:((x:Int)≠(y:Int))=(x≠y):=propext ⟨fun h=>by w_up,fun h=>by w_up⟩
 simp only [e];exact k
theorem jhO{x y:Int}(k:B (decide (x≠y))):yo .ne (.int x) (.int y) st B:=CmpR.ne k
theorem OC{x y:Int}(k:B (decide (x<y))):yo .lt (.int x) (.int y) st B:=CmpR.lt k
theorem jbQ{x y:Int}(k:B (decide (x≤y))):yo .le (.int x) (.int y) st B:=CmpR.le k
theorem jfx{x y:Int}(k:B (decide (y<x))):yo .gt (.int x) (.int y) st B:=CmpR.gt k
theorem jfL{x:String}(k:B true):yo .eq (.str x) (.str x) st B:=by
 refine CmpR.eq (EqR.str ?_);rw [decide_eq_true rfl];exact k
theorem jbB{x y:String}(h:x≠y)(k:B false):yo .eq (.str x) (.str y) st B:=by
 refine CmpR.eq (EqR.str ?_);rw [decide_eq_false h];exact k
theorem jeO{x a b:String}(h:x=a\/x=b)(k:B true):yo .inn (.str x) (.tup [.str a,.str b]) st B :=
 CmpR.inn (InR.tup (zs:=[a,b]) (by rw [decide_eq_true (by simp [h])];exact k))
theorem jeI{x a b:String}(h:¬(x=a\/x=b))(k:B false):yo .inn (.str x) (.tup [.str a,.str b]) st B :=
 CmpR.inn (InR.tup (zs:=[a,b]) (by rw [decide_eq_false (by simpa using h)];exact k))
theorem jea{x a b c:String}(h:x=a\/x=b\/x=c)(k:B true):yo .inn (.str x) (.tup [.str a,.str b,.str c]) st B :=
 CmpR.inn (InR.tup (zs:=[a,b,c]) (by rw [decide_eq_true (by simp [h])];exact k))
theorem jdA{x a b c:String}(h:¬(x=a\/x=b\/x=c))(k:B false):yo .inn (.str x) (.tup [.str a,.str b,.str c]) st B :=
 CmpR.inn (InR.tup (zs:=[a,b,c]) (by rw [decide_eq_false (by simpa using h)];exact k))
theorem Vf{x r:Nat}{rs:List Nat}(h:st r=some (.list (jc rs)))(k:B (decide (x∈rs))):yo .inn (.int x) (.ref r) st B:=by
 refine CmpR.inn (InR.list (xs:=rs.map fun r:Nat=>(r:Int)) (by rw [h,xE]) ?_)
 simp only [Q3];exact k
theorem YZ{x r:Nat}{rs:List Nat}(h:st r=some (.list (jc rs)))(k:B (decide (x∉rs))):yo .nin (.int x) (.ref r) st B:=by
 refine CmpR.nin (InR.list (xs:=rs.map fun r:Nat=>(r:Int)) (by rw [h,xE]) ?_)
 simp only [Q3,← decide_not];exact k
theorem OE{α:Type}{f:α->MV}{x r:Nat}{d:List (Nat×α)}(h:st r=some (.idict (dN f d)))(k:B (lkN d x).isSome):yo .inn (.int x) (.ref r) st B:=by
 refine CmpR.inn (InR.dict h ?_)
 rw [vH,Option.isSome_map];exact k
theorem Oc{α:Type}{f:α->MV}{x r:Nat}{d:List (Nat×α)}(h:st r=some (.idict (dN f d)))(k:B (!(lkN d x).isSome)):yo .nin (.int x) (.ref r) st B:=by
 refine CmpR.nin (InR.dict h ?_)
 rw [vH,Option.isSome_map];exact k
theorem jee{r t:Nat}{xs ys:List Nat}(h:st r=some (.list (jc xs)))(h':st t=some (.list (jc ys)))(k:B (decide (xs=ys))):yo .eq (.ref r) (.ref t) st B:=by
 refine CmpR.eq (EqR.lst (xs:=xs.map fun r:Nat=>(r:Int)) (ys:=ys.map fun r:Nat=>(r:Int)) (by rw [h,xE]) (by rw [h',xE]) ?_)
 have e:(xs.map (fun r:Nat=>(r:Int))=ys.map fun r:Nat=>(r:Int))=(xs=ys):=propext ⟨fun h=>(List.map_inj_right (fun a b e=>Int.ofNat.inj e)).mp h,fun h=>by rw [h]⟩
 simp only [e];exact k
theorem jde{r t:Nat}{xs:List MV}(h:st r=some (.list xs))(h':st t=some (.list []))(k:B xs.isEmpty):yo .eq (.ref r) (.ref t) st B:=CmpR.eq (EqR.nil h h' k)
theorem G5{r t:Nat}{xs:List MV}(h:st r=some (.list xs))(h':st t=some (.list []))(k:B (!xs.isEmpty)):yo .ne (.ref r) (.ref t) st B:=CmpR.nee h h' k
theorem jgL{x y:Bool}(k:B (x==y)):yo .eq (.bool x) (.bool y) st B:=CmpR.eq (EqR.bool k)
theorem jgr{x y:Bool}(k:B (x != y)):yo .ne (.bool x) (.bool y) st B:=CmpR.neb k
theorem gT{a:MV}{r}(k:Q a):xT (.tup (a::r)) (.int 0) st Q:=SubR.t (by decide) rfl k
theorem jgO{a b:MV}{r}(k:Q b):xT (.tup (a::b::r)) (.int 1) st Q:=SubR.t (by decide) rfl k
theorem jfX{a b c:MV}{r}(k:Q c):xT (.tup (a::b::c::r)) (.int 2) st Q:=SubR.t (by decide) rfl k
theorem jhL{a b c d:MV}{r}(k:Q d):xT (.tup (a::b::c::d::r)) (.int 3) st Q:=SubR.t (by decide) rfl k
theorem s_l{r i:Nat}{xs:List MV}{v:MV}(h:st r=some (.list xs))(e:xs[i]? = some v)(k:Q v):xT (.ref r) (.int (i:Int)) st Q :=
 SubR.l h (Int.natCast_nonneg _) e k
theorem zl{r:Nat}{xs:List MV}{v:MV}(h:st r=some (.list xs))(e:xs[0]? = some v)(k:Q v):xT (.ref r) (.int 0) st Q:=s_l (i:=0) h e k
theorem V9{r:Nat}{xs:List MV}{v:MV}(h:st r=some (.list xs))(e:xs[1]? = some v)(k:Q v):xT (.ref r) (.int 1) st Q:=s_l (i:=1) h e k
theorem jeY{r:Nat}{xs:List MV}{v:MV}(h:st r=some (.list xs))(e:xs[2]? = some v)(k:Q v):xT (.ref r) (.int 2) st Q:=s_l (i:=2) h e k
theorem jfP{r:Nat}{xs:List MV}{v:MV}(h:st r=some (.list xs))(e:xs[3]? = some v)(k:Q v):xT (.ref r) (.int 3) st Q:=s_l (i:=3) h e k
theorem s_d{α:Type}{f:α->MV}{r x:Nat}{d:List (Nat×α)}{v:α}(h:st r=some (.idict (dN f d))\/st r=some (.fdict (dN f d)))(e:lkN d x=some v)(k:Q (f v)):xT (.ref r) (.int (x:Int)) st Q :=
 h.elim (fun h=>SubR.d h (by rw [vH,e];rfl) k) fun h=>SubR.f h (by rw [vH,e];rfl) k
theorem lb0{P:Prop}(k:P):([]:List MV).length≤jb/\P:=⟨show 0≤jb by decide,k⟩
theorem lb1{a:MV}{P:Prop}(k:P):([a]:List MV).length≤jb/\P:=⟨show 1≤jb by decide,k⟩
theorem lb2{a b:MV}{P:Prop}(k:P):([a,b]:List MV).length≤jb/\P:=⟨show 2≤jb by decide,k⟩
theorem lb3{a b c:MV}{P:Prop}(k:P):([a,b,c]:List MV).length≤jb/\P:=⟨show 3≤jb by decide,k⟩
theorem lb4{a b c d:MV}{P:Prop}(k:P):([a,b,c,d]:List MV).length≤jb/\P:=⟨show 4≤jb by decide,k⟩
theorem lb5{a b c d e:MV}{P:Prop}(k:P):([a,b,c,d,e]:List MV).length≤jb/\P:=⟨show 5≤jb by decide,k⟩
theorem j2{r:Nat}{xs:List MV}{K:List MV->List (Nat×MObj)->Prop}(h:st r=some (.list xs))(k:K xs [(r,.list xs)]):Yk (.ref r) st K:=ItemsR.ref h k
theorem jeN{xs:List MV}{K:List MV->List (Nat×MObj)->Prop}(k:K xs []):Yk (.tup xs) st K:=ItemsR.tup k
theorem jfQ{xs:List Int}{K:List MV->List (Nat×MObj)->Prop}(k:K (xs.map .int) []):Yk (.clist xs) st K:=ItemsR.cl k
theorem vG{r:Nat}{xs:List MV}{K:List MV->List (Nat×MObj)->Prop}(h:st r=some (.list xs))(k:K xs [(r,.list xs)]):gC (.ref r) st K:=SeqR.ref h k
theorem gY{xs:List MV}{K:List MV->List (Nat×MObj)->Prop}(k:K xs []):gC (.tup xs) st K:=SeqR.tup k
theorem Jq{r:Nat}{xs:List MV}(h:st r=some (.list xs))(k:K (.int ((xs.length:Nat):Int)) st):y4 "len" [.ref r] st K:=BcR.len h k
theorem uR{r:Nat}{es}(h:st r=some (.idict es))(k:K (.int ((es.length:Nat):Int)) st):y4 "len" [.ref r] st K:=BcR.lend h k
theorem jeg{x:Int}(k:K (.int x.natAbs) st):y4 "abs" [.int x] st K:=BcR.abs k
theorem jdL{r:Nat}{xs:List Int}(h:st r=some (.list (xs.map .int)))(l:xs.length≤100)(b:∀ x∈xs,0≤x/\x<10000)(k:K (.int xs.sum) st):y4 "sum" [.ref r] st K:=BcR.sum h l b k
theorem jdJ{r:Nat}{xs:List Bool}(h:st r=some (.list (xs.map .bool)))(k:K (.bool (xs.any id)) st):y4 "any" [.ref r] st K:=BcR.any h k
theorem jbz{r:Nat}{xs:List Nat}(h:st r=some (.list (jc xs)))(hn:xs≠[])(k:∀ m,m∈xs->(∀ y∈xs,y≤m)->K (.int (m:Int)) st):y4 "max" [.ref r] st K:=by
 refine BcR.maxl (xs:=xs.map fun r:Nat=>(r:Int)) (by rw [h,xE]) (by simpa using hn) fun m hm hy=>?_
 obtain ⟨q,hq,rfl⟩:=List.mem_map.mp hm
 exact k q hq fun y hy'=>Int.ofNat_le.mp (hy _ (List.mem_map.mpr ⟨y,hy',rfl⟩))
theorem jbS{x y:Nat}(k:K (.int ((max x y:Nat):Int)) st):y4 "max" [.int x,.int y] st K:=by
 refine BcR.max ?_
 rw [show max (x:Int) (y:Int)=((max x y:Nat):Int) from (Nat.le_total x y).elim (fun h=>by rw [Nat.max_eq_right h,Int.max_eq_right (Int.ofNat_le.mpr h)]) fun h=>by rw [Nat.max_eq_left h,Int.max_eq_left (Int.ofNat_le.mpr h)]];exact k
theorem XM{r:Nat}{xs:List MV}(h:st r=some (.list xs))(k:K (.tup xs) st):y4 "tuple" [.ref r] st K:=BcR.tuple h k
theorem jaN{r:Nat}{es}(h:st r=some (.idict es))(k:Ret st (.idict es) K):y4 "dict" [.ref r] st K:=BcR.dictd h (al k)
theorem jas{r:Nat}{es:List (Int×MV)}(h:st r=some (.list (es.map fun e=>.tup [.int e.1,e.2])))(k:Ret st (.idict (es.foldl (fun d e=>Ju d e.1 e.2) [])) K):y4 "dict" [.ref r] st K:=BcR.dictl h (al k)
theorem jJ{r:Nat}{xs:List MV}(h:st r=some (.list xs)):Yh (.ref r) "append" st:=.list h (.inl rfl)
theorem JG{r:Nat}{xs:List MV}(h:st r=some (.list xs)):Yh (.ref r) "extend" st:=.list h (.inr (.inl rfl))
theorem jac{r:Nat}{xs:List MV}(h:st r=some (.list xs)):Yh (.ref r) "pop" st:=.list h (.inr (.inr rfl))
theorem jfa{r:Nat}{es}(h:st r=some (.idict es)):Yh (.ref r) "get" st:=.dict h rfl
theorem Qi{r d:Nat}{c m:String}{fs}(h:st r=some (.inst c d fs))(e:lkF fs m=none)(i:instMeths.contains (c++"."++m)=true):Yh (.ref r) m st:=.inst h e i
variable {st₂:St}
theorem Ol{r:Nat}{v:MV}{xs ys:List MV}(h:st r=some (.list ys))(h':st₂ r=some (.list xs))(l:xs.length<jb)(k:K .none (st₂.put r (.list (xs++[v])))):jF (.ref r) st st₂/\yF C (.ref r) "append" [v] st₂ K :=
 ⟨.list h h',.append rfl h' l k⟩
theorem OP{r t:Nat}{xs ys zs:List MV}(h:st r=some (.list ys))(h':st₂ r=some (.list xs))(n:r≠t)(ht:st₂ t=some (.list zs))(l:xs.length+zs.length<jb)(k:K .none (st₂.put r (.list (xs++zs)))):jF (.ref r) st st₂/\yF C (.ref r) "extend" [.ref t] st₂ K :=
 ⟨.list h h',.extend rfl h' n ht l k⟩
theorem Um{r:Nat}{xs ys zs:List MV}(h:st r=some (.list ys))(h':st₂ r=some (.list xs))(l:xs.length+zs.length<jb)(k:K .none (st₂.put r (.list (xs++zs)))):jF (.ref r) st st₂/\yF C (.ref r) "extend" [.tup zs] st₂ K :=
 ⟨.list h h',.extendt rfl h' l k⟩
theorem jga{r:Nat}{v:MV}{xs:List MV}(h:st r=some (.list (xs++[v])))(k:K v (st.put r (.list xs))):jF (.ref r) st st/\yF C (.ref r) "pop" [] st K :=
 ⟨.list h h,.pop rfl h k⟩
theorem jfE{α:Type}{f:α->MV}{r x:Nat}{d:List (Nat×α)}{v:MV}(h:st r=some (.idict (dN f d)))(k:K (((lkN d x).map f).getD v) st):jF (.ref r) st st/\yF C (.ref r) "get" [.int x,v] st K :=
 ⟨.dict h h,.get rfl h (by rw [vH];exact k)⟩
theorem gz{r d:Nat}{c m g:String}{fs}{vs:List MV}(h:st r=some (.inst c d fs))(h':st₂ r=some (.inst c d fs))(e:lkF fs m=none)(i:c++"."++m=g)(k:C g (.ref r::vs) st₂ K):jF (.ref r) st st₂/\yF C (.ref r) m vs st₂ K :=
 ⟨.inst h h',.inst h' e (by rw [i];exact k)⟩
variable {P:St->Prop}
theorem jhG{r i:Nat}{xs:List MV}{v:MV}(h:st r=some (.list xs))(l:i<xs.length)(k:P (st.put r (.list (xs.set i v)))):Jb (.ref r) (.int (i:Int)) v st P :=
 SetSubR.l h (Int.natCast_nonneg _) l k
theorem jhJ{α:Type}{f:α->MV}{r x:Nat}{d:List (Nat×α)}{v:α}(h:st r=some (.idict (dN f d)))(l:d.length<jb)(k:P (st.put r (.idict (dN f (j5 d x v))))):Jb (.ref r) (.int (x:Int)) (f v) st P :=
 SetSubR.d h (by rw [qG];exact l) (by rw [G0];exact k)
theorem sa{r d:Nat}{c a:String}{fs}{v:MV}(h:st r=some (.inst c d fs))(l:fs.length<100)(k:P (st.put r (.inst c d (Z9 fs a v)))):JI (.ref r) a v st P:=SetAttrR.mk h l k
theorem ga{r d:Nat}{c a:String}{fs}{v:MV}(h:st r=some (.inst c d fs))(e:lkF fs a=some v)(k:Q v):VB (.ref r) a st Q:=AttrR.mk h e k
theorem Qy{xs:List MV}{n:Nat}{K:List MV->Prop}(h:xs.length=n)(k:K xs):J2 (.tup xs) n st K:=UnpR.tup h k
theorem jgY{r:Nat}{xs:List MV}{n:Nat}{K:List MV->Prop}(e:st r=some (.list xs))(h:xs.length=n)(k:K xs):J2 (.ref r) n st K:=UnpR.ref e h k
variable {K':ja->Prop}
theorem uM{x:String}{v:MV}(k:let r:=yf ρ x v;K' r):yv (.one x) v ρ st K':=k
theorem yO{xs:List String}{vs:List MV}(h:vs.length=xs.length)(k:let r:=y5 ρ xs vs;K' r):yv (.many xs) (.tup vs) ρ st K':=UnpR.tup h k
theorem G3{xs:List String}{vs:List MV}{r:Nat}(e:st r=some (.list vs))(h:vs.length=xs.length)(k:let r:=y5 ρ xs vs;K' r):yv (.many xs) (.ref r) ρ st K':=UnpR.ref e h k
theorem Qp{x:String}{v:MV}(k:K' ((x,some v)::ρ)):y0 (.one x) v ρ st K':=k
theorem uW{xs:List String}{vs:List MV}(h:vs.length=xs.length)(k:K' (xs.zip (vs.map some)++ρ)):y0 (.many xs) (.tup vs) ρ st K':=UnpR.tup h k
end
theorem Qj{st:St}{r t:Nat}{o u:MObj}(h:st r=some o)(h':st t=some u):ji [(r,o),(t,u)] st:=fun p hp=>by
 rcases List.mem_cons.mp hp with e | e
 ·rw [e];exact h
 ·rw [List.mem_singleton.mp e];exact h'
section
variable {α:Type}{mv:α->MV}{src:List (Nat×MObj)}
theorem OI{step}{ρ:ja}{st:St}{K:ja->St->Prop}(s:ji src st)(k:K ρ st):Jw src step [] ρ st K:=⟨s,k⟩
theorem xS{step}{ρ:ja}{st:St}{K:ja->St->Prop}{x:MV}{xs:List MV}(s:ji src st)(k:step x ρ st fun ρ' st'=>Jw src step xs ρ' st' K):Jw src step (x::xs) ρ st K:=⟨s,k⟩
theorem ZZ{pre xs all:List α}{x:α}(e:all=pre++x::xs):all=(pre++[x])++xs:=by rw [e,List.append_assoc];rfl
theorem jer{step:MV->ja->St->(ja->St->Prop)->Prop}{K:ja->St->Prop}(I:List α->ja->St->Prop)(all:List α)
  (hs:∀ pre ρ st,I pre ρ st->ji src st)
  (hstep:∀ pre x post,all=pre++x::post->∀ ρ st,I pre ρ st->∀ K',(∀ ρ' st',I (pre++[x]) ρ' st'->K' ρ' st')->step (mv x) ρ st K')
  (hk:∀ ρ st,I all ρ st->K ρ st) (xs:List α):∀ (pre:List α) (ρ:ja) (st:St),all=pre++xs->I pre ρ st->Jw src step (xs.map mv) ρ st K:=by
 induction xs with
 |nil=>exact fun pre ρ st e h=>⟨hs _ _ _ h,hk _ _ (by rw [e,List.append_nil];exact h)⟩
 |cons x xs ih=>exact fun pre ρ st e h=>⟨hs _ _ _ h,hstep pre x xs e ρ st h _ fun ρ' st' h'=>ih (pre++[x]) ρ' st' (ZZ e) h'⟩
theorem lp{step:MV->ja->St->(ja->St->Prop)->Prop}{K:ja->St->Prop}(I:List α->ja->St->Prop){xs:List α}{ρ:ja}{st:St}(h:I [] ρ st)
  (hs:∀ pre ρ st,I pre ρ st->ji src st)
  (hstep:∀ pre x post,xs=pre++x::post->∀ ρ st,I pre ρ st->∀ K',(∀ ρ' st',I (pre++[x]) ρ' st'->K' ρ' st')->step (mv x) ρ st K')
  (hk:∀ ρ st,I xs ρ st->K ρ st):Jw src step (xs.map mv) ρ st K:=jer I xs hs hstep hk xs [] ρ st rfl h
theorem jeL{g:α->Option MV}{pre:List α}{x:α}:(pre++[x]).filterMap g=pre.filterMap g++(g x).toList:=by
 rw [List.filterMap_append]
 cases z:g x with
 |none=>rw [List.filterMap_cons_none z];rfl
 |some v=>rw [List.filterMap_cons_some z];rfl
theorem jdI{step:MV->St->(Option MV->St->Prop)->Prop}{K:List MV->St->Prop}(I:List α->St->Prop)(g:α->Option MV)(all:List α)
  (hs:∀ pre st,I pre st->ji src st)
  (hstep:∀ pre x post,all=pre++x::post->∀ st,I pre st->∀ K',(∀ st',I (pre++[x]) st'->K' (g x) st')->step (mv x) st K')
  (hk:∀ st,I all st->K (all.filterMap g) st) (xs:List α):∀ (pre:List α) (st:St),all=pre++xs->I pre st->YB src step (xs.map mv) (pre.filterMap g) st K:=by
 induction xs with
 |nil =>
  intro pre st e h
  rw [List.append_nil] at e
  rw [← e]
  exact ⟨hs _ _ h,hk _ (e▸h)⟩
 |cons x xs ih =>
  refine fun pre st e h=>⟨hs _ _ h,hstep pre x xs e st h _ fun st' h'=>?_⟩
  rw [← jeL]
  exact ih (pre++[x]) st' (ZZ e) h'
theorem cp{step:MV->St->(Option MV->St->Prop)->Prop}{K:List MV->St->Prop}(I:List α->St->Prop)(g:α->Option MV){xs:List α}{st:St}(h:I [] st)
  (hs:∀ pre st,I pre st->ji src st)
  (hstep:∀ pre x post,xs=pre++x::post->∀ st,I pre st->∀ K',(∀ st',I (pre++[x]) st'->K' (g x) st')->step (mv x) st K')
  (hk:∀ st,I xs st->K (xs.filterMap g) st):YB src step (xs.map mv) [] st K:=jdI I g xs hs hstep hk xs [] st rfl h
theorem jcS{step:MV->St->(Option MV->St->Prop)->Prop}{K:List MV->St->Prop}(I:List α->List MV->St->Prop)(all:List α)
  (hs:∀ pre acc st,I pre acc st->ji src st)
  (hstep:∀ pre x post,all=pre++x::post->∀ acc st,I pre acc st->∀ K',(∀ v st',I (pre++[x]) (acc++[v]) st'->K' (some v) st')->step (mv x) st K')
  (hk:∀ acc st,I all acc st->K acc st) (xs:List α):∀ (pre:List α) (acc:List MV) (st:St),all=pre++xs->I pre acc st->YB src step (xs.map mv) acc st K:=by
 induction xs with
 |nil=>exact fun pre acc st e h=>⟨hs _ _ _ h,hk _ _ (by rw [e,List.append_nil];exact h)⟩
 |cons x xs ih=>exact fun pre acc st e h=>⟨hs _ _ _ h,hstep pre x xs e acc st h _ fun v st' h'=>ih (pre++[x]) (acc++[v]) st' (ZZ e) h'⟩
theorem cpA{step:MV->St->(Option MV->St->Prop)->Prop}{K:List MV->St->Prop}(I:List α->List MV->St->Prop){xs:List α}{st:St}(h:I [] [] st)
  (hs:∀ pre acc st,I pre acc st->ji src st)
  (hstep:∀ pre x post,xs=pre++x::post->∀ acc st,I pre acc st->∀ K',(∀ v st',I (pre++[x]) (acc++[v]) st'->K' (some v) st')->step (mv x) st K')
  (hk:∀ acc st,I xs acc st->K acc st):YB src step (xs.map mv) [] st K:=jcS I xs hs hstep hk xs [] [] st rfl h
end
theorem JX{α:Type}{mv:α->MV}{xs:List α}:∀ {n:Nat},Jl n (xs.map mv)=(xs.zipIdx n).map fun p=>.tup [.int ((p.2:Nat):Int),mv p.1]:=by
 induction xs with
 |nil=>exact rfl
 |cons x xs ih=>intro n;exact congrArg (MV.tup [.int (n:Nat),mv x]::·) ih
theorem uv{α β:Type}{f:α->MV}{g:β->MV}{xs:List α}:∀ {ys:List β},List.zipWith (fun x y=>MV.tup [x,y]) (xs.map f) (ys.map g)=(xs.zip ys).map fun p=>.tup [f p.1,g p.2]:=by
 induction xs with
 |nil=>exact rfl
 |cons x xs ih =>
  intro ys
  cases ys with
  |nil=>rfl
  |cons y ys=>exact congrArg (MV.tup [f x,g y]::·) ih
theorem jr{n:Nat}{f:String}{fn:Fn}{args:List MV}{st:St}{K:MV->St->Prop}(hc:classes.contains f=false)(ht:table.lookup f=some fn)(hl:fn.params.length=args.length)
  (h:jG (Cl n) fn.body (xI fn args) st (fun _ st'=>K .none st') K):Cl (n+1) f args st K:=(QP hc).mpr ⟨fn,ht,hl,h⟩
theorem ZV{n:Nat}{f:String}{args:List MV}{st:St}{K:MV->St->Prop}(hc:classes.contains f=true)
  (h:∀ a d st1,Le st st1->st a=Option.none->st1 a=some (.inst f d [])->Cl n (f++".__init__") (.ref a::args) st1 fun v st'=>v=.none/\K (.ref a) st'):Cl (n+1) f args st K :=
 (QF hc).mpr fun a d na nd had=>h a d _ ((Le.new nd).put na) na yk
section
variable {C:jt}{st st₂:St}{K:MV->St->Prop}{P:St->Prop}
theorem Lx.self{st:St}{r:Nat}{o:MObj}:Lx [r] st (st.put r o):=fun b ob n e=>by
 rw [oY (fun h:b=r=>n (by rw [h];exact List.mem_singleton.mpr rfl))];exact e
theorem Le.lx{st st' st'':St}{r:Nat}(l:Le st st')(n:st r=none)(x:Lx [r] st' st''):Le st st'':=fun a o e=>x a o (fun m=>by rw [List.mem_singleton.mp m,n] at e;cases e) (l a o e)
theorem lxg{st st':St}{r a:Nat}{o:MObj}(x:Lx [r] st st')(n:a≠r)(e:st a=some o):st' a=some o:=x a o (by simpa using n) e
theorem lxn{st st':St}{r a:Nat}{o:MObj}(x:Lx [r] st st')(h:st' r=some o)(e:st' a=none):st a=none:=by
 cases z:st a with
 |none=>rfl
 |some q =>
  by_cases m:a=r
  ·rw [m,h] at e;cases e
  ·rw [lxg x m z] at e;cases e
theorem jI{r:Nat}{v:MV}{xs ys:List MV}(h:st r=some (.list ys))(h':st₂ r=some (.list xs))(l:xs.length<jb)(k:∀ st',Lx [r] st₂ st'->st' r=some (.list (xs++[v]))->K .none st'):jF (.ref r) st st₂/\yF C (.ref r) "append" [v] st₂ K :=
 Ol h h' l (k _ Lx.self yk)
theorem Yw{r t:Nat}{xs ys zs:List MV}(h:st r=some (.list ys))(h':st₂ r=some (.list xs))(n:r≠t)(ht:st₂ t=some (.list zs))(l:xs.length+zs.length<jb)(k:∀ st',Lx [r] st₂ st'->st' r=some (.list (xs++zs))->K .none st'):jF (.ref r) st st₂/\yF C (.ref r) "extend" [.ref t] st₂ K :=
 OP h h' n ht l (k _ Lx.self yk)
theorem gr{r:Nat}{xs ys zs:List MV}(h:st r=some (.list ys))(h':st₂ r=some (.list xs))(l:xs.length+zs.length<jb)(k:∀ st',Lx [r] st₂ st'->st' r=some (.list (xs++zs))->K .none st'):jF (.ref r) st st₂/\yF C (.ref r) "extend" [.tup zs] st₂ K :=
 Um h h' l (k _ Lx.self yk)
theorem Ow{r:Nat}{v:MV}{xs:List MV}(h:st r=some (.list (xs++[v])))(k:∀ st',Lx [r] st st'->st' r=some (.list xs)->K v st'):jF (.ref r) st st/\yF C (.ref r) "pop" [] st K :=
 jga h (k _ Lx.self yk)
theorem Zx{r i:Nat}{xs:List MV}{v:MV}(h:st r=some (.list xs))(l:i<xs.length)(k:∀ st',Lx [r] st st'->st' r=some (.list (xs.set i v))->P st'):Jb (.ref r) (.int (i:Int)) v st P :=
 jhG h l (k _ Lx.self yk)
theorem vJ{α:Type}{f:α->MV}{r x:Nat}{d:List (Nat×α)}{v:α}(h:st r=some (.idict (dN f d)))(l:d.length<jb)(k:∀ st',Lx [r] st st'->st' r=some (.idict (dN f (j5 d x v)))->P st'):Jb (.ref r) (.int (x:Int)) (f v) st P :=
 jhJ h l (k _ Lx.self yk)
theorem sax{r d:Nat}{c a:String}{fs}{v:MV}(h:st r=some (.inst c d fs))(l:fs.length<100)(k:∀ st',Lx [r] st st'->st' r=some (.inst c d (Z9 fs a v))->P st'):JI (.ref r) a v st P:=sa h l (k _ Lx.self yk)
end
theorem cal{st:St}{ys:List MV}{K:MV->St->Prop}(hl:ys.length<jb)(k:Ret st (.list ys) K):uQ st ys K:=fun a n=>⟨hl,al k a n⟩
theorem oL{α β:Type}{f:α->β}{xs:List α}:xs.filterMap (fun x=>some (f x))=xs.map f:=by rw [List.filterMap_eq_map']
theorem qE{α β:Type}{f:α->β}{p:α->Bool}{xs:List α}:xs.filterMap (fun x=>if p x then some (f x) else none)=(xs.filter p).map f:=by
 induction xs with
 |nil=>rfl
 |cons x xs ih =>
  rw [List.filterMap_cons,List.filter_cons,ih]
  cases p x<;>simp
theorem YD{st:St}{ys:List MV}{ns:List Nat}{K:MV->St->Prop}(e:ys=jc ns)(hl:ns.length<jb)(k:Ret st (.list (jc ns)) K):uQ st ys K:=by
 subst e;exact cal (by rw [List.length_map];exact hl) k
theorem zz{α:Type}{f:α->Nat}{xs:List α}:xs.filterMap (fun x=>some (MV.int (f x:Int)))=jc (xs.map f):=by
 rw [oL (f:=fun x=>MV.int (f x:Int)),jc,List.map_map];rfl
theorem qh{α:Type}{f:α->Nat}{p:α->Bool}{xs:List α}:xs.filterMap (fun x=>if p x then some (MV.int (f x:Int)) else none)=jc ((xs.filter p).map f):=by
 rw [qE (f:=fun x=>MV.int (f x:Int)),jc,List.map_map];rfl
theorem zv{p:Nat->Bool}{xs:List Nat}:xs.filterMap (fun x=>if p x then some (MV.int (x:Int)) else none)=jc (xs.filter p):=qE
set_option tactic.hygienic false
set_option hygiene false in
set_option compiler.extract_closed false in
set_option hygiene false in
set_option compiler.extract_closed false in
local macro_rules | `(tactic| kst_mem) => `(tactic| first | exact List.Mem.head _ | (apply List.Mem.tail; kst_mem) | (apply List.mem_append_right; kst_mem) | (apply List.mem_append_left; kst_mem))
set_option hygiene false in
set_option compiler.extract_closed false in
local macro_rules | `(tactic| tb_lt) => `(tactic| first | ((with_reducible apply jhM); rfl; done) | ((with_reducible apply jgu); tb_lt; assumption; rfl; done) | ((with_reducible apply jeK); tb_lt; tb_lt; done))
set_option hygiene false in
set_option compiler.extract_closed false in
local macro_rules | `(tactic| kt_le) => `(tactic| first | ((with_reducible apply jgJ); rfl; done) | ((with_reducible apply jgi); tb_lt; kt_le; done))
set_option hygiene false in
set_option compiler.extract_closed false in
local macro_rules | `(tactic| lt_chain) => `(tactic| first
| ((with_reducible apply jek); rfl; intro _)
| ((with_reducible apply jdC); rfl)
| ((with_reducible apply jbY); rfl; assumption; rfl; intro _)
| ((with_reducible apply jez); rfl)
| ((with_reducible apply jeU); rfl)
| ((with_reducible apply jex); rfl; assumption; rfl)
| ((with_reducible apply jel); rfl; rfl)
| ((with_reducible apply jbk); rfl; rfl; decide)
| ((with_reducible apply jaI); rfl; rfl; decide)
| ((with_reducible apply jao); rfl; rfl)
| ((with_reducible apply jch); rfl)
| ((with_reducible apply jbJ); rfl; rfl)
| ((with_reducible apply jcD); rfl)
| ((with_reducible apply jcN); rfl)
| ((with_reducible apply a_s); rfl)
| ((with_reducible apply zU); rfl)
| ((with_reducible apply Qw); rfl; assumption; rfl)
| ((with_reducible apply jeQ); rfl; rfl)
| ((with_reducible apply um); rfl)
| ((with_reducible apply jdy); rfl; rfl)
| ((with_reducible apply jbc); rfl; rfl)
| ((with_reducible apply uA); rfl)
| ((with_reducible apply GH); rfl)
| ((with_reducible apply o7); rfl)
| ((with_reducible apply OQ); rfl)
| ((with_reducible apply jcP); rfl)
| ((with_reducible apply jdN); rfl)
| ((with_reducible apply O7); focus kt_le) | ((with_reducible apply jae); focus kt_le) | ((with_reducible apply UJ); focus kt_le) | ((with_reducible apply jcg); focus tb_lt) | ((with_reducible apply jcQ); focus tb_lt; focus tb_lt)
| ((with_reducible apply uo); focus kt_le) | ((with_reducible apply jgn); focus kt_le) | ((with_reducible apply jbt); focus tb_lt) | ((with_reducible apply jaJ); focus tb_lt; focus tb_lt) | ((with_reducible apply jbj); focus tb_lt; focus tb_lt) | ((with_reducible apply uX); focus tb_lt; focus tb_lt) | ((with_reducible apply jcI); focus tb_lt; focus tb_lt) | ((with_reducible apply jay); focus tb_lt)
| with_reducible (first | refine ya rfl ?_ | refine jm ?_ | refine zH ?_ | refine jbf ?_ | refine JY ?_ | refine Jc ?_ | refine Qm ?_ | refine xG ?_ | refine xz ?_ | refine yE ?_ | (refine gF ?_; intro _) | refine Q7 ?_ | refine Xp ?_ | refine ga (by assumption) rfl ?_ | refine gT ?_ | refine jgO ?_ | refine jfX ?_ | refine jhL ?_ | refine j6 ?_ | refine qB ?_ | refine Zz ?_ | refine ZL ?_ | refine vX ?_ | refine OY ?_ | refine jfL ?_ | refine jbB (by decide) ?_ | refine X1 ?_ | refine Jn ?_ | refine jeO (by decide) ?_ | refine jeI (by decide) ?_ | refine jea (by decide) ?_ | refine jdA (by decide) ?_ | refine jgv ?_ | refine O1 ?_ | refine jdW ?_ | refine jcx ?_ | refine jdM ?_ | refine jeX ?_ | refine V3 ?_ | refine j2 (by assumption) ?_ | refine jeN ?_ | (refine uM ?_; intro _) | refine Qp ?_ | refine jgB ?_ | refine jda ?_ | refine jfD ?_ | refine jdw ?_ | refine jdu ?_ | refine GF ?_ | refine jaz ?_ | refine jeJ ?_ | refine qN ?_ | refine jdf ?_ | refine qH ?_ | refine GW ?_ | refine jcn ?_ | refine jbO ?_ | refine V5 ?_ | refine Og ?_ | refine jcl ?_ | refine gm ?_ | refine al ?_ | refine lb0 ?_ | refine lb1 ?_ | refine lb2 ?_ | refine lb3 ?_ | refine lb4 ?_ | refine lb5 ?_ | refine jal (al ?_) | refine OB (al ?_) | refine Ga ?_ | refine G2 ?_ | refine jeu ?_ | refine jaj ?_ | refine jco ?_ | refine jcZ ⟨_, rfl, ?_⟩ | refine jcZ ?_ | refine G4 ?_ | refine Ud ?_ | refine jgM ?_ | refine jfn ?_ | refine jfm ?_ | refine U0 ?_ | refine Oh ?_))
set_option hygiene false in
set_option compiler.extract_closed false in
local macro_rules | `(tactic| leaf_len) => `(tactic| lt_chain)
set_option hygiene false in
set_option compiler.extract_closed false in
local macro_rules | `(tactic| one_place) => `(tactic| dsimp only [xI, List.zip_cons_cons, List.zip_nil_left, List.map_cons, List.map_nil, List.cons_append, List.nil_append, List.zip_nil_right])
local macro_rules | `(tactic|l_ints)=>`(tactic|repeat leaf_len)
noncomputable abbrev Row:=Nat×Nat×List Nat
noncomputable def Yz(r:Row):MV:=.tup [.int r.1,.int r.2.1,.tup (jc r.2.2)]
set_option genCtorIdx true in
inductive Op
 | const (t:Nat)
 | move (t s:Nat)
 | global (t:Nat)
 | define (s:Nat)
 | setglobal (s:Nat)
 | prim (t:Nat) (ss:List Nat)
 | closure (t:Nat) (ss:List Nat)
 | fix (rows:List Row)
noncomputable def Op.mv:Op->MV
 |.const t=>.tup [.str "const",.int t,.int 0]
 |.move t s=>.tup [.str "move",.int t,.int s]
 |.global t=>.tup [.str "global",.int t,.int 1]
 |.define s=>.tup [.str "define",.int 0,.int s]
 |.setglobal s=>.tup [.str "setglobal",.int 1,.int s]
 |.prim t ss=>.tup [.str "prim",.int t,.int 2,.tup (jc ss)]
 |.closure t ss=>.tup [.str "closure",.int t,.int 2,.tup (jc ss)]
 |.fix rows=>.tup [.str "fix",.tup (rows.map Yz)]
noncomputable def yt(own:List Nat)(r:Row):List Nat:=r.2.2.filter fun x=>decide (x∉own)
noncomputable def Op.reads:Op->List Nat
 |.const _=>[]
 |.move _ s=>[s]
 |.global _=>[]
 |.define s=>[s]
 |.setglobal s=>[s]
 |.prim _ ss=>ss
 |.closure _ ss=>ss
 |.fix rows=>rows.flatMap (yt (rows.map (·.1)))
noncomputable def Op.writes:Op->List Nat
 |.const t=>[t]
 |.move t _=>[t]
 |.global t=>[t]
 |.define _=>[]
 |.setglobal _=>[]
 |.prim t _=>[t]
 |.closure t _=>[t]
 |.fix rows=>rows.map (·.1)
noncomputable def Op.isFix:Op->Bool
 |.fix ..=>true
 |_=>false
set_option genCtorIdx true in
inductive PV
 | target (n:Nat)
 | source (n:Nat)
 | sources (ns:List Nat)
 | rows (rows:List Row)
 | constant | primitive | procedure
 | globl (i:Int)
noncomputable def PV.mv:PV->MV
 |.target n=>.tup [.str "target",.int n]
 |.source n=>.tup [.str "source",.int n]
 |.sources ns=>.tup [.str "sources",.tup (jc ns)]
 |.rows rs=>.tup [.str "rows",.tup (rs.map Yz)]
 |.constant=>.tup [.str "constant",.int 0]
 |.primitive=>.tup [.str "primitive",.int 2]
 |.procedure=>.tup [.str "procedure",.int 2]
 |.globl i=>.tup [.str "global",.int i]
noncomputable def PV.rd:PV->List Nat
 |.source n=>[n]
 |.sources ns=>ns
 |.rows rs=>rs.flatMap (yt (rs.map (·.1)))
 |_=>[]
noncomputable def PV.wr:PV->List Nat
 |.target n=>[n]
 |.rows rs=>rs.map (·.1)
 |_=>[]
noncomputable def Op.pairs:Op->List PV
 |.const t=>[.target t,.constant]
 |.move t s=>[.target t,.source s]
 |.global t=>[.target t,.globl 1]
 |.define s=>[.globl 0,.source s]
 |.setglobal s=>[.globl 1,.source s]
 |.prim t ss=>[.target t,.primitive,.sources ss]
 |.closure t ss=>[.target t,.procedure,.sources ss]
 |.fix rows=>[.rows rows]
theorem Vk(op:Op):op.pairs.flatMap PV.rd=op.reads:=by
 cases op<;>simp [Op.pairs,PV.rd,Op.reads]
theorem Xu(op:Op):op.pairs.flatMap PV.wr=op.writes:=by
 cases op<;>simp [Op.pairs,PV.wr,Op.writes]
inductive jgV (op:Op):Prop
 |mk (s:String) (t:List String) (as:List MV) (e:op.mv=.tup (.str s::as)) (h:opTab.lookup s=some t) (l:1≤as.length+1) (z:List.zipWith (fun x y=>MV.tup [x,y]) (t.map .str) as=op.pairs.map PV.mv) (n:op.pairs.length<jb)
theorem jgc(op:Op):jgV op:=by
 cases op<;>exact ⟨_,_,_,rfl,rfl,Nat.le_add_left ..,rfl,ble rfl⟩
theorem Gk{C:jt}{ρ:ja}{st:St}{K:MV->St->Prop}(op:Op)(h:lk ρ "instruction" = some op.mv)(k:Ret st (.list (op.pairs.map PV.mv)) K) :
  wpE C (.mklist (.zip (.optab (.sub (.var "instruction") (.int 0))) (.sfrom (.var "instruction") (.int 1)))) ρ st K:=by
 obtain ⟨s,t,as,e,hs,l,z,n⟩:=jgc op
 rw [e] at h
 refine V5 (gm (G4 (xG (ya h (zH (gT ⟨s,t,rfl,hs,Ud (ya h (zH ⟨_,rfl,by decide,Or.inl ⟨_,rfl,⟨Nat.le_refl _,l⟩,gY (gY ?_)⟩⟩))⟩))))))
 show (List.zipWith (fun x y=>MV.tup [x,y]) (t.map .str) as).length<jb/\jq st (.list (List.zipWith (fun x y=>MV.tup [x,y]) (t.map .str) as)) K
 rw [z]
 exact ⟨by rw [List.length_map];exact n,al k⟩
theorem JU{n:Nat}{op:Op}{st:St}{K:MV->St->Prop}(hk:Ret st (.list (op.pairs.map PV.mv)) K):Cl (n+1) "operand_pairs" [op.mv] st K:=by
 refine jr (fn:=fn_operand_pairs) (by decide) rfl rfl ?_
 unfold fn_operand_pairs
 exact jm (Zz (Gk op rfl hk))
theorem YK{α β:Type}{f:α->List β}{pre post:List α}{x:α}:(pre.flatMap f).length+(f x).length≤((pre++x::post).flatMap f).length:=by
 simp only [List.flatMap_append,List.flatMap_cons,List.length_append];w_up
theorem yx{α β:Type}{f:α->List β}{pre:List α}{x:α}:(pre++[x]).flatMap f=pre.flatMap f++f x:=by simp
theorem js(a b:List Nat):jc a++jc b=jc (a++b):=(List.map_append ..).symm
theorem je(a:List Nat):(jc a).length=a.length:=List.length_map ..
set_option tactic.hygienic true in
theorem yD{n:Nat}{op:Op}{st:St}{K:MV->St->Prop}(hb:op.reads.length<jb)(hw:op.writes.length<jb)(hk:Ret st (.list (jc op.reads)) K):Cl (n+2) "registers_read" [op.mv] st K:=by
 refine jr (fn:=fn_registers_read) (by decide) rfl rfl ?_
 unfold fn_registers_read
 one_place
 l_ints
 intro r st1 l1 n1 h1
 l_ints
 refine JU fun p st2 l2 n2 h2=>?_
 have hpr:=(jw n2 h1).symm
 have h1:=l2 _ _ h1
 have l2:=l1.trans l2
 refine j2 h2 ?_
 refine lp (mv:=PV.mv) (fun pre ρ st'=>∀ G:ja->St->Prop,(Le st st'->st' p=some (.list (op.pairs.map PV.mv))->st' r=some (.list (jc (pre.flatMap PV.rd)))->∀ a b c d,G [("instruction",some op.mv),("found",some (.ref r)),("sort",a),("operand",b),("own",c),("row",d)] st')->G ρ st')
   (fun _ k=>k l2 h2 h1 _ _ _ _) (fun pre ρ st' h=>h (fun _ t=>ji _ t) fun _ h _ _ _ _ _=>jh h) ?_ ?_
 ·rintro pre x post e ρ st3 I4 K' hK'
  apply I4;intro l3 h3 h4 a b c d
  have hl:=YK (f:=PV.rd) (pre:=pre) (post:=post) (x:=x)
  rw [← e,Vk] at hl
  cases x
  all_goals refine yO rfl ?_
  case source s =>
   l_ints
   refine ⟨jJ h4,?_⟩
   l_ints
   refine jI h4 h4 (by rw [je];w_up) fun st4 l4 h5=>⟨rfl,?_⟩
   l_ints
   refine hK' _ _ (fun _ k=>k (l3.lx n1 l4) (lxg l4 hpr h3) ?_ _ _ _ _)
   rw [yx,← js];exact h5
  case sources ss =>
   l_ints
   refine ⟨JG h4,?_⟩
   l_ints
   refine gr h4 h4 (by rw [je,je];exact Nat.lt_of_le_of_lt hl hb) fun st4 l4 h5=>⟨rfl,?_⟩
   l_ints
   refine hK' _ _ (fun _ k=>k (l3.lx n1 l4) (lxg l4 hpr h3) ?_ _ _ _ _)
   rw [yx,← js];exact h5
  case rows rs =>
   l_ints
   refine cp (mv:=Yz) (fun _ st'=>st'=st3) (fun r=>some (.int r.1)) rfl (fun _ _ _=>jH) ?_ ?_
   ·rintro pre1 y post1 e1 st' rfl K1 hK1
    l_ints
    try unfold Yz
    l_ints
    exact hK1 _ rfl
   ·rintro st' rfl
    have hw1:=YK (f:=PV.wr) (pre:=pre) (post:=post) (x:=.rows rs)
    rw [← e,Xu] at hw1
    simp only [PV.wr,List.length_map] at hw1
    refine YD (zz (f:=fun r:Row=>r.1)) (by rw [List.length_map];w_up) fun o st4 l4 no ho=>?_
    have npo:=jw no h3
    have nro:=jw no h4
    have h3:=l4 _ _ h3
    have h4:=l4 _ _ h4
    have l3:=l3.trans l4
    l_ints
    refine lp (mv:=Yz) (fun pr ρ st'=>∀ G:ja->St->Prop,(Le st st'->st' p=some (.list (op.pairs.map PV.mv))->st' r=some (.list (jc (pre.flatMap PV.rd++pr.flatMap (yt (rs.map (·.1))))))->st' o=some (.list (jc (rs.map (·.1))))->∀ d,G [("instruction",some op.mv),("found",some (.ref r)),("sort",some (.str "rows")),("operand",some (.tup (rs.map Yz))),("own",some (.ref o)),("row",d)] st')->G ρ st')
      (fun _ k=>k l3 h3 (by simpa using h4) ho _) (fun _ _ _ _=>jH) ?_ ?_
    ·rintro pr y ps ey ρ st5 I3 K1 hK1
     apply I3;intro l5 h5 h6 ho d
     have hl1:=YK (f:=yt (rs.map (·.1))) (pre:=pr) (post:=ps) (x:=y)
     rw [← ey] at hl1
     simp only [PV.rd] at hl
     l_ints
     refine ⟨JG h6,?_⟩
     l_ints
     try unfold Yz
     l_ints
     refine cp (mv:=fun r:Nat=>MV.int (r:Int)) (fun _ st'=>st'=st5) (fun x=>if decide (x∉rs.map (·.1)) then some (.int (x:Int)) else none) rfl (fun _ _ _=>jH) ?_ ?_
     ·rintro pre1 y post1 e1 st' rfl K1 hK1
      l_ints
      refine YZ ho ?_
      refine yQ (fun hn=>?_) fun hn=>?_
      ·l_ints
       have z:=hK1 _ rfl
       rw [decide_eq_true hn] at z;exact z
      ·have z:=hK1 _ rfl
       rw [decide_eq_false hn] at z;exact z
     ·rintro st6 rfl
      refine YD (ns:=yt (rs.map (·.1)) y) zv (by w_up) fun q st7 l7 n7 hh=>?_
      l_ints
      have n8:=jw n7 h6
      refine Yw h6 (l7 _ _ h6) n8 hh (by rw [je,je,List.length_append];w_up) fun st8 l8 h8=>⟨rfl,?_⟩
      l_ints
      refine hK1 _ _ (fun _ k=>k ((l5.trans l7).lx n1 l8) (lxg l8 hpr (l7 _ _ h5)) ?_ (lxg l8 nro.symm (l7 _ _ ho)) _)
      rw [yx,← List.append_assoc,← js];exact h8
    ·rintro ρ st5 I3
     apply I3;intro l5 h5 h6 ho d
     l_ints
     refine hK' _ _ (fun _ k=>k l5 h5 ?_ _ _ _ _)
     rw [yx];exact h6
  all_goals (
   l_ints
   refine hK' _ _ (fun _ k=>k l3 h3 ?_ _ _ _ _)
   rw [yx];simpa [PV.rd] using h4)
 ·rintro ρ st' I4
  apply I4;intro l3 h3 h4 a b c d
  rw [Vk] at h4
  l_ints
  exact hk _ _ l3 n1 h4
theorem jC{n:Nat}{op:Op}{st:St}{K:MV->St->Prop}(hw:op.writes.length<jb)(hk:Ret st (.list (jc op.writes)) K):Cl (n+2) "registers_written" [op.mv] st K:=by
 refine jr (fn:=fn_registers_written) (by decide) rfl rfl ?_
 unfold fn_registers_written
 one_place
 l_ints
 intro r st1 l1 n1 h1
 l_ints
 refine JU fun p st2 l2 n2 h2=>?_
 have hpr:=(jw n2 h1).symm
 have h1:=l2 _ _ h1
 have l2:=l1.trans l2
 refine j2 h2 ?_
 refine lp (mv:=PV.mv) (fun pre ρ st'=>∀ G:ja->St->Prop,(Le st st'->st' p=some (.list (op.pairs.map PV.mv))->st' r=some (.list (jc (pre.flatMap PV.wr)))->∀ a b,G [("instruction",some op.mv),("found",some (.ref r)),("sort",a),("operand",b)] st')->G ρ st')
   (fun _ k=>k l2 h2 h1 _ _) (fun pre ρ st' h=>h (fun _ t=>ji _ t) fun _ h _ _ _=>jh h) ?_ ?_
 ·rintro pre x post e ρ st3 I2 K' hK'
  apply I2;intro l3 h3 h4 a b
  have hl:=YK (f:=PV.wr) (pre:=pre) (post:=post) (x:=x)
  rw [← e,Xu] at hl
  cases x
  all_goals refine yO rfl ?_
  case target s =>
   l_ints
   refine ⟨jJ h4,?_⟩
   l_ints
   refine jI h4 h4 (by rw [je];w_up) fun st4 l4 h5=>⟨rfl,?_⟩
   l_ints
   refine hK' _ _ (fun _ k=>k (l3.lx n1 l4) (lxg l4 hpr h3) ?_ _ _)
   rw [yx,← js];exact h5
  case rows rs =>
   l_ints
   refine ⟨JG h4,?_⟩
   l_ints
   refine cp (mv:=Yz) (fun _ st'=>st'=st3) (fun r=>some (.int r.1)) rfl (fun _ _ _=>jH) ?_ ?_
   ·rintro pre1 y post1 e1 st' rfl K1 hK1
    l_ints
    try unfold Yz
    l_ints
    exact hK1 _ rfl
   ·rintro st' rfl
    simp only [PV.wr,List.length_map] at hl
    refine YD (zz (f:=fun r:Row=>r.1)) (by rw [List.length_map];w_up) fun o st4 l4 no ho=>?_
    l_ints
    refine Yw h4 (l4 _ _ h4) (jw no h4) ho (by rw [je,je,List.length_map];w_up) fun st8 l8 h8=>⟨rfl,?_⟩
    l_ints
    refine hK' _ _ (fun _ k=>k ((l3.trans l4).lx n1 l8) (lxg l8 hpr (l4 _ _ h3)) ?_ _ _)
    rw [yx,← js];exact h8
  all_goals (
   l_ints
   refine hK' _ _ (fun _ k=>k l3 h3 ?_ _ _)
   rw [yx];simpa [PV.wr] using h4)
 ·rintro ρ st' I2
  apply I2;intro l3 h3 h4 a b
  rw [Xu] at h4
  l_ints
  exact hk _ _ l3 n1 h4
set_option tactic.hygienic true in
theorem yU{n:Nat}{op:Op}{st:St}{K:MV->St->Prop}(hw:op.writes.length<jb)(hk:Ret st (.list (jc op.writes)) K):Cl (n+1) "_law_gives" [op.mv] st K:=by
 refine jr (fn:=fn_law_gives) (by decide) rfl rfl ?_
 unfold fn_law_gives
 one_place
 cases op
 case fix rs =>
  unfold Op.mv
  l_ints
  refine cp (mv:=Yz) (fun _ st'=>st'=st) (fun r=>some (.int r.1)) rfl (fun _ _ _=>jH) ?_ ?_
  ·rintro pre1 y post1 e1 st' rfl K1 hK1
   l_ints
   try unfold Yz
   l_ints
   exact hK1 _ rfl
  ·rintro st' rfl
   exact YD (zz (f:=fun r:Row=>r.1)) hw hk
 all_goals (
  unfold Op.mv
  l_ints
  exact hk)
set_option tactic.hygienic true in
theorem JJ{n:Nat}{op:Op}{st:St}{K:MV->St->Prop}(hb:op.reads.length<jb)(hw:op.writes.length<jb)(hk:Ret st (.list (jc op.reads)) K):Cl (n+2) "_law_reads" [op.mv] st K:=by
 refine jr (fn:=fn_law_reads) (by decide) rfl rfl ?_
 unfold fn_law_reads
 one_place
 cases op
 case fix rs =>
  unfold Op.mv
  l_ints
  intro r st1 l1 n1 h1
  l_ints
  refine lp (mv:=Yz) (fun pr ρ st'=>∀ G:ja->St->Prop,(Le st st'->st' r=some (.list (jc (pr.flatMap (yt (rs.map (·.1))))))->∀ d,G [("op",some (Op.fix rs).mv),("found",some (.ref r)),("row",d)] st')->G ρ st')
    (fun _ k=>k l1 h1 _) (fun _ _ _ _=>jH) ?_ ?_
  ·rintro pr y ps ey ρ st5 I1 K1 hK1
   apply I1;intro l5 h6 d
   have hl1:=YK (f:=yt (rs.map (·.1))) (pre:=pr) (post:=ps) (x:=y)
   rw [← ey] at hl1
   l_ints
   refine ⟨JG h6,?_⟩
   l_ints
   try unfold Yz
   l_ints
   refine cp (mv:=fun r:Nat=>MV.int (r:Int)) (fun _ st'=>Le st5 st') (fun x=>if decide (x∉rs.map (·.1)) then some (.int (x:Int)) else none) Le.refl (fun _ _ _=>jH) ?_ ?_
   ·rintro pre1 y post1 e1 st' le K1 hK1
    l_ints
    refine yU hw fun o st6 l6 n6 h7=>?_
    l_ints
    refine YZ (rs:=rs.map fun r:Row=>r.1) h7 ?_
    refine yQ (fun hn=>?_) fun hn=>?_
    ·l_ints
     have z:=hK1 _ (le.trans l6)
     rw [decide_eq_true hn] at z;exact z
    ·have z:=hK1 _ (le.trans l6)
     rw [decide_eq_false hn] at z;exact z
   ·rintro st6 l6
    have hb':(rs.flatMap (yt (rs.map (·.1)))).length<jb:=hb
    refine YD (ns:=yt (rs.map (·.1)) y) zv (by w_up) fun q st7 l7 n7 hh=>?_
    l_ints
    have l7:=l6.trans l7
    have n8:=jw (l6.back n7) h6
    refine Yw h6 (l7 _ _ h6) n8 hh (by rw [je,je];w_up) fun st8 l8 h8=>⟨rfl,?_⟩
    l_ints
    refine hK1 _ _ (fun _ k=>k ((l5.trans l7).lx n1 l8) ?_ _)
    rw [yx,← js];exact h8
  ·rintro ρ st5 I1
   apply I1;intro l5 h6 d
   l_ints
   exact hk _ _ l5 n1 h6
 all_goals (
  unfold Op.mv
  l_ints
  first
  | exact hk
  | exact ⟨by rw [je];exact hb,al hk⟩)
theorem jaG{σ:Type}{C:jt}{c:ME}{b:List MS}{ρ:ja}{st:St}{Kn:ja->St->Prop}{Kr:MV->St->Prop}(I:σ->ja->St->Prop)(μ:σ->Nat){s:σ}(h:I s ρ st)
  (hstep:∀ s ρ st,I s ρ st->∀ Kw:ja->St->Prop,(∀ s' ρ' st',μ s'<μ s->I s' ρ' st'->Kw ρ' st')->wpE C c ρ st fun v st'=>∃ b',v=.bool b'/\ifb b' (jG C b ρ st' Kw Kr) (Kn ρ st')) :
  wpS C (.whil c b) ρ st Kn Kr:=by
 refine Oh ⟨μ s+1,?_⟩
 have key:∀ n s ρ st,I s ρ st->μ s<n->XB (fun ρ st K=>wpT C c ρ st K) (fun ρ st K=>jG C b ρ st K Kr) n ρ st Kn:=by
  intro n
  induction n with
  |zero=>intro s ρ st h hl;w_up
  |succ n ih=>intro s ρ st h hl;exact hstep s ρ st h _ fun s' ρ' st' hm hi=>ih s' ρ' st' hi (by w_up)
 exact key _ s ρ st h (by w_up)
noncomputable def jg(rs:List Nat):Nat:=rs.foldl (fun m r=>m ||| 2 ^ r) 0
theorem Vb(rs:List Nat)(r:Nat):jg (rs++[r])=jg rs ||| 2 ^ r:=by simp [jg,List.foldl_append]
noncomputable def jn(N m:Nat):List Nat:=(List.range N).filter fun i=>m.testBit i
noncomputable def wo(m o:Nat):Nat:=m &&& (m ^^^ o)
theorem jK{n:Nat}{st:St}{r:Nat}{rs:List Nat}{K:MV->St->Prop}(h:st r=some (.list (jc rs)))(hb:∀ x∈rs,x<4096)(hk:K (.int (jg rs:Nat)) st):Cl (n+1) "mask_of" [.ref r] st K:=by
 refine jr (fn:=fn_mask_of) (by decide) (by rfl) rfl ?_
 unfold fn_mask_of
 one_place
 l_ints
 refine lp (mv:=fun r:Nat=>MV.int (r:Int)) (fun pre ρ st'=>∀ G:ja->St->Prop,(∀ x,G [("registers",some (MV.ref r)),("found",some (MV.int (jg pre:Nat))),("register",x)] st)->G ρ st')
   (fun _ k=>k _) (fun pre ρ st' hI=>hI (fun _ t=>ji _ t) fun _=>jh h) ?_ ?_
 ·rintro pre q post e ρ st' I1 K' hK'
  apply I1;intro y
  have hq:=hb q (by rw [e];simp)
  l_ints
  refine uJ hq ?_
  l_ints
  refine hK' _ _ (fun G k=>(congrArg (fun ρ=>G ρ _) ?_).mpr (k (some (.int q))))
  rw [Vb];rfl
 ·rintro ρ st' I1
  apply I1;intro y
  l_ints
  exact hk
theorem testBit_and(m q:Nat):decide (((m >>> q &&& 1:Nat):Int)=1)=m.testBit q:=by
 unfold Nat.testBit
 rw [Nat.and_comm 1,Nat.and_one_is_mod]
 have:=Nat.mod_two_eq_zero_or_one (m >>> q)
 rcases this with h | h<;>rw [h]<;>decide
theorem zu{n m q:Nat}{st:St}{K:MV->St->Prop}(h:q<100000)(hk:K (.bool (m.testBit q)) st):Cl (n+1) "is_in" [.int m,.int q] st K:=by
 refine jr (fn:=fn_is_in) (by decide) rfl rfl ?_
 unfold fn_is_in
 one_place
 l_ints
 refine jah (by w_up) ?_
 l_ints
 refine vm ?_
 rw [testBit_and];exact hk
theorem Y3{n m o:Nat}{st:St}{K:MV->St->Prop}(hk:K (.int (wo m o:Nat)) st):Cl (n+1) "without" [.int m,.int o] st K:=by
 refine jr (fn:=fn_without) (by decide) rfl rfl ?_
 unfold fn_without
 one_place
 l_ints
 exact hk
theorem Uf{N a m:Nat}(h:a≤N)(hz:m >>> a=0):jn N m=jn a m:=by
 unfold jn
 obtain ⟨k,rfl⟩:=Nat.exists_eq_add_of_le h
 rw [List.range_add,List.filter_append]
 have e:((List.range k).map fun x=>a+x).filter (fun i=>m.testBit i)=[]:=by
  refine List.filter_eq_nil_iff.mpr fun x hx=>?_
  obtain ⟨y,_,rfl⟩:=List.mem_map.mp hx
  have:=Nat.testBit_shiftRight (i:=a) (j:=y) m
  rw [hz] at this
  simp at this
  simp [← this]
 rw [e,List.append_nil]
theorem YS{n m N:Nat}{st:St}{K:MV->St->Prop}(hm:m<2 ^ N)(hN:N<100000)(hk:Ret st (.list (jc (jn N m))) K):Cl (n+1) "bits_of" [.int m] st K:=by
 refine jr (fn:=fn_bits_of) (by decide) rfl rfl ?_
 unfold fn_bits_of
 one_place
 l_ints
 intro r st1 l1 n1 h1
 l_ints
 refine jaG (fun a ρ st'=>a≤N/\Le st st'/\st' r=some (.list (jc (jn a m)))/\ρ=[("mask",some (.int m)),("found",some (.ref r)),("at",some (.int (a:Nat)))]) (fun a=>N - a) (s:=0) ⟨by w_up,l1,h1,rfl⟩ ?_
 rintro a ρ st2 ⟨ha,l2,h2,rfl⟩ Kw hKw
 l_ints
 refine jah (by w_up) ?_
 l_ints
 refine jfx ?_
 l_ints
 refine yQ (fun h=>?_) fun h=>?_
 ·have hlt:a<N:=by
   refine Nat.lt_of_not_le fun hn=>?_
   have:m >>> a=0:=by rw [Nat.shiftRight_eq_div_pow];exact Nat.div_eq_of_lt (Nat.lt_of_lt_of_le hm (Nat.pow_le_pow_right (by decide) hn))
   rw [this] at h;simp at h
  have hs:jn (a+1) m=jn a m++if m.testBit a then [a] else []:=by
   unfold jn
   rw [List.range_succ,List.filter_append];congr 1
   cases z:m.testBit a<;>simp [z]
  l_ints
  refine jah (by w_up) ?_
  l_ints
  refine vm ?_
  l_ints
  rw [testBit_and]
  refine JV (fun hb=>?_) fun hb=>?_
  ·rw [hb] at hs
   l_ints
   refine ⟨jJ h2,?_⟩
   l_ints
   refine jI h2 h2 ?_ fun st3 l3 h3=>⟨rfl,?_⟩
   ·rw [je]
    exact Nat.lt_of_le_of_lt (List.length_filter_le ..) (by rw [List.length_range];unfold jb;w_up)
   l_ints
   refine hKw (a+1) _ _ (Nat.sub_lt_sub_left (by w_up) (Nat.lt_succ_self _)) ⟨by w_up,l2.lx n1 l3,?_,rfl⟩
   rw [hs,← js];exact h3
  ·rw [hb] at hs
   l_ints
   refine hKw (a+1) _ _ (Nat.sub_lt_sub_left (by w_up) (Nat.lt_succ_self _)) ⟨by w_up,l2,?_,rfl⟩
   rw [hs];simpa using h2
 ·l_ints
  refine hk _ _ l2 n1 ?_
  rw [Uf ha (Nat.eq_zero_of_not_pos fun hp=>h (Int.natCast_pos.mpr hp))];exact h2
set_option genCtorIdx true in
inductive En
 | goto (c:Nat) (ss:List Nat)
 | branch (t c d:Nat)
 | call (a b:Nat) (ss:List Nat)
 | give (a:Nat) (ss:List Nat)
noncomputable def En.mv:En->MV
 |.goto c ss=>.tup [.str "goto",.int c,.tup (jc ss)]
 |.branch t c d=>.tup [.str "branch",.int t,.int c,.int d]
 |.call a b ss=>.tup [.str "call",.int a,.int b,.tup (jc ss)]
 |.give a ss=>.tup [.str "give",.int a,.tup (jc ss)]
noncomputable def En.reads:En->List Nat
 |.goto _ ss=>ss
 |.branch t _ _=>[t]
 |.call a b ss=>a::b::ss
 |.give a ss=>a::ss
noncomputable def En.next:En->List Nat
 |.goto c _=>[c]
 |.branch _ c d=>[c,d]
 |_=>[]
structure Bk where
 params:List Nat
 ops:List Op
 fin:En
structure Un where
 entry:List Nat
 count:Nat
 blocks:List Bk
noncomputable def Un.par(U:Un)(c:Nat):List Nat:=(U.blocks[c]?.map Bk.params).getD []
inductive BkAt (st:St) (b i:Nat) (B:Bk):Prop
 | mk (d p o:Nat) (h1:st b=some (.inst "LowBlock" d [("number",.int (i:Nat)),("params",.ref p),("ops",.ref o),("end",B.fin.mv)])) (h2:st p=some (.list (jc B.params))) (h3:st o=some (.list (B.ops.map Op.mv)))
inductive UnAt (st:St) (u:Nat) (U:Un):Prop
 | mk (d e bl:Nat) (bs:List Nat) (h1:st u=some (.inst "LowUnit" d [("number",.int 0),("title",.str "u"),("is_continuation",.bool false),("entry",.ref e),("needed",.int 0),("has_rest",.bool false),("free",.int 0),("count",.int (U.count:Nat)),("blocks",.ref bl)]))
  (h2:st e=some (.list (jc U.entry))) (h3:st bl=some (.list (bs.map .ref))) (h4:bs.length=U.blocks.length) (h5:∀ i b B,bs[i]? = some b->U.blocks[i]? = some B->BkAt st b i B)
theorem BkAt.le{st st':St}{b i:Nat}{B:Bk}(h:BkAt st b i B)(l:Le st st'):BkAt st' b i B:=by
 obtain ⟨d,p,o,h1,h2,h3⟩:=h
 exact ⟨d,p,o,l _ _ h1,l _ _ h2,l _ _ h3⟩
theorem UnAt.le{st st':St}{u:Nat}{U:Un}(h:UnAt st u U)(l:Le st st'):UnAt st' u U:=by
 obtain ⟨d,e,bl,bs,h1,h2,h3,h4,h5⟩:=h
 exact ⟨d,e,bl,bs,l _ _ h1,l _ _ h2,l _ _ h3,h4,fun i b B x y=>(h5 i b B x y).le l⟩
def qm(N:Nat)(o:Op):Prop:=(∀ r∈o.reads,r<N)/\(∀ r∈o.writes,r<N)/\o.reads.length<1000/\o.writes.length<1000
structure UW(N M:Nat)(B:Bk):Prop where
 par:∀ r∈B.params,r<N
 parl:B.params.length<1000
 ops:∀ o∈B.ops,qm N o
 opsl:B.ops.length<1000
 fin:∀ r∈B.fin.reads,r<N
 finl:B.fin.reads.length<1000
 next:∀ c∈B.fin.next,c<M
noncomputable def gvs(U:Un):List Nat:=U.entry++U.blocks.flatMap fun B=>B.params++B.ops.flatMap Op.writes
structure jy(U:Un):Prop where
 ord:gvs U=List.range U.count
 cnt:U.count<1000
 nb:U.blocks.length<100
 pos:0<U.blocks.length
 ent:∀ r∈U.entry,r<U.count
 entl:U.entry.length<1000
 entc:U.entry.length≤U.count
 blk:∀ B∈U.blocks,UW U.count U.blocks.length B
theorem Xe{n:Nat}{E:En}{st:St}{K:MV->St->Prop}(hb:E.reads.length<1000)(hk:Ret st (.list (jc E.reads)) K):Cl (n+1) "end_reads" [E.mv] st K:=by
 refine jr (fn:=fn_end_reads) (by decide) rfl rfl ?_
 unfold fn_end_reads
 one_place
 cases E
 case goto =>
  unfold En.mv
  l_ints
  exact ⟨by rw [je];exact Nat.lt_trans hb (by decide),al hk⟩
 case branch =>
  unfold En.mv
  l_ints
  exact hk
 all_goals
  unfold En.mv
  l_ints
  intro r st1 l1 n1 h1
  l_ints
  refine ⟨by rw [je];simp only [En.reads,List.length_cons] at hb;exact Nat.lt_trans (m:=1000) (by w_up) (by decide),al fun q st2 l2 n2 h2=>?_⟩
  refine xx (l2 _ _ h1) h2 ?_ ((hk.le (l1.trans l2)))
  rw [je];simp only [En.reads,List.length_cons,List.length_nil] at hb ⊢;unfold jb;w_up
set_option tactic.hygienic true in
theorem Y8{n:Nat}{E:En}{st:St}{K:MV->St->Prop}(hk:Ret st (.list (jc E.next)) K):Cl (n+1) "end_blocks" [E.mv] st K:=by
 refine jr (fn:=fn_end_blocks) (by decide) rfl rfl ?_
 unfold fn_end_blocks
 one_place
 cases E
 all_goals
  unfold En.mv
  l_ints
  exact hk
theorem zi{n:Nat}{E:En}{st:St}{K:MV->St->Prop}(hb:E.reads.length<1000)(hk:Ret st (.list (jc E.reads)) K):Cl (n+1) "_law_end_reads" [E.mv] st K:=by
 refine jr (fn:=fn_law_end_reads) (by decide) rfl rfl ?_
 unfold fn_law_end_reads
 one_place
 cases E
 case goto =>
  unfold En.mv
  l_ints
  exact ⟨by rw [je];exact Nat.lt_trans hb (by decide),al hk⟩
 case branch =>
  unfold En.mv
  l_ints
  exact hk
 all_goals
  unfold En.mv
  l_ints
  intro r st1 l1 n1 h1
  l_ints
  refine ⟨by rw [je];simp only [En.reads,List.length_cons] at hb;exact Nat.lt_trans (m:=1000) (by w_up) (by decide),al fun q st2 l2 n2 h2=>?_⟩
  refine xx (l2 _ _ h1) h2 ?_ ((hk.le (l1.trans l2)))
  rw [je];simp only [En.reads,List.length_cons,List.length_nil] at hb ⊢;unfold jb;w_up
noncomputable def Jf(U:Un)(B:Bk)(beg:List Nat):Nat:=B.fin.next.foldl (fun m c=>m ||| wo ((beg[c]?).getD 0) (jg (U.par c))) (jg B.fin.reads)
noncomputable def yh(o:Op)(m:Nat):Nat:=wo m (jg o.writes) ||| jg o.reads
noncomputable def jl(U:Un)(B:Bk)(beg:List Nat):Nat:=B.ops.foldr yh (Jf U B beg)
noncomputable def Yg(m:Nat):List Op->List Nat
 |[]=>[]
 |_::os=>os.foldr yh m::Yg m os
noncomputable def jj(U:Un)(B:Bk)(beg:List Nat):List Nat:=Yg (Jf U B beg) B.ops
set_option tactic.hygienic true in
theorem Yq{n u b g i:Nat}{U:Un}{B:Bk}{beg:List Nat}{st:St}{K:MV->St->Prop}(hu:UnAt st u U)(ho:jy U)(hb:BkAt st b i B)(hB:UW U.count U.blocks.length B)
  (hg:st g=some (.list (jc beg))) (hl:beg.length=U.blocks.length) (hk:∀ st',Le st st'->K (.int (Jf U B beg:Nat)) st'):Cl (n+2) "live_at_end" [.ref u,.ref b,.ref g] st K:=by
 refine jr (fn:=fn_live_at_end) (by decide) rfl rfl ?_
 unfold fn_live_at_end
 one_place
 obtain ⟨db,p,o,hb1,hb2,hb3⟩:=hb
 obtain ⟨d,e,bl,bs,h1,h2,h3,h4,h5⟩:=hu
 l_ints
 refine Xe hB.finl fun r st1 l1 n1 h6=>?_
 l_ints
 refine jK h6 (fun x hx=>Nat.lt_trans (hB.fin x hx) (Nat.lt_trans ho.cnt (by decide))) ?_
 have hb1:=l1 _ _ hb1
 l_ints
 refine Y8 fun q st2 l2 n2 h7=>?_
 have l2:=l1.trans l2
 refine j2 h7 ?_
 refine lp (mv:=fun r:Nat=>MV.int (r:Int)) (fun pre ρ st'=>∀ G:ja->St->Prop,(∀ x,G [("unit",some (.ref u)),("block",some (.ref b)),("begins",some (.ref g)),("found",some (.int (pre.foldl (fun m c=>m ||| wo ((beg[c]?).getD 0) (jg (U.par c))) (jg B.fin.reads):Nat))),("number",x)] st2)->G ρ st')
   (fun _ k=>k _) (fun pre ρ st' h=>h (fun _ t=>ji _ t) fun _=>jh h7) ?_ ?_
 ·rintro pre c post e' ρ st' I3 K' hK'
  apply I3;intro y
  have hc:c<U.blocks.length:=hB.next c (by rw [e'];simp)
  obtain ⟨Bc,hBc⟩:∃ Bc,U.blocks[c]? = some Bc:=⟨_,List.getElem?_eq_getElem hc⟩
  obtain ⟨bc,hbc⟩:∃ bc,bs[c]? = some bc:=⟨_,List.getElem?_eq_getElem (by w_up)⟩
  obtain ⟨gc,hgc⟩:∃ gc,beg[c]? = some gc:=⟨_,List.getElem?_eq_getElem (by w_up)⟩
  obtain ⟨dc,pc,oc,hc1,hc2,hc3⟩:=h5 c bc Bc hbc hBc
  have hg:=l2 _ _ hg
  have h1:=l2 _ _ h1
  have h3:=l2 _ _ h3
  have hc1:=l2 _ _ hc1
  have hc2:=l2 _ _ hc2
  l_ints
  refine s_l (v:=.int (gc:Nat)) hg (by rw [List.getElem?_map,hgc];rfl) ?_
  l_ints
  refine s_l (v:=.ref bc) h3 (by rw [List.getElem?_map,hbc];rfl) ?_
  l_ints
  have hok:=ho.blk Bc (List.mem_of_getElem? hBc)
  refine jK hc2 (fun x hx=>Nat.lt_trans (hok.par x hx) (Nat.lt_trans ho.cnt (by decide))) ?_
  l_ints
  refine Y3 ?_
  l_ints
  refine hK' _ _ (fun G k=>(congrArg (fun ρ=>G ρ _) ?_).mpr (k (some (.int c))))
  rw [List.foldl_append,List.foldl_cons,List.foldl_nil,hgc,show U.par c=Bc.params by unfold Un.par;rw [hBc];rfl]
  rfl
 ·rintro ρ st' I3
  apply I3;intro y
  l_ints
  exact hk _ l2
theorem Y9{n m N:Nat}{op:Op}{st:St}{K:MV->St->Prop}(ho:qm N op)(hN:N<1000)(hk:∀ st',Le st st'->K (.int (yh op m:Nat)) st'):Cl (n+3) "live_ahead" [op.mv,.int m] st K:=by
 refine jr (fn:=fn_live_ahead) (by decide) rfl rfl ?_
 unfold fn_live_ahead
 one_place
 obtain ⟨h1,h2,h3,h4⟩:=ho
 l_ints
 refine jC (Nat.lt_trans h4 (by decide)) fun r st1 l1 n1 h5=>?_
 l_ints
 refine jK h5 (fun x hx=>Nat.lt_trans (h2 x hx) (Nat.lt_trans hN (by decide))) ?_
 l_ints
 refine Y3 ?_
 l_ints
 refine yD (Nat.lt_trans h3 (by decide)) (Nat.lt_trans h4 (by decide)) fun q st2 l2 n2 h6=>?_
 l_ints
 refine jK h6 (fun x hx=>Nat.lt_trans (h1 x hx) (Nat.lt_trans hN (by decide))) ?_
 l_ints
 exact hk _ (l1.trans l2)
theorem x7{n u b g i:Nat}{U:Un}{B:Bk}{beg:List Nat}{st:St}{K:MV->St->Prop}(hu:UnAt st u U)(ho:jy U)(hb:BkAt st b i B)(hB:UW U.count U.blocks.length B)
  (hg:st g=some (.list (jc beg))) (hl:beg.length=U.blocks.length) (hk:∀ st',Le st st'->K (.int (jl U B beg:Nat)) st'):Cl (n+4) "live_at_begin" [.ref u,.ref b,.ref g] st K:=by
 refine jr (fn:=fn_live_at_begin) (by decide) rfl rfl ?_
 unfold fn_live_at_begin
 one_place
 l_ints
 refine Yq hu ho hb hB hg hl fun st1 l1=>?_
 obtain ⟨db,p,o,hb1,hb2,hb3⟩:=hb.le l1
 l_ints
 refine ⟨_,_,rfl,hb3,al fun r st2 l2 n2 h2=>j2 h2 ?_⟩
 rw [← List.map_reverse] at h2 ⊢
 refine lp (mv:=Op.mv) (fun pre ρ st'=>∀ G:ja->St->Prop,(Le st1 st'->st' r=some (.list (B.ops.reverse.map Op.mv))->∀ x,G [("unit",some (.ref u)),("block",some (.ref b)),("begins",some (.ref g)),("after",some (.int (pre.reverse.foldr yh (Jf U B beg):Nat))),("op",x)] st')->G ρ st')
   (fun _ k=>k l2 h2 _) (fun pre ρ st' h=>h (fun _ t=>ji _ t) fun _ h _=>jh h) ?_ ?_
 ·rintro pre c post e' ρ st' I2 K' hK'
  apply I2;intro l3 h3 y
  have hc:c∈B.ops:=by rw [← List.mem_reverse,e'];simp
  l_ints
  refine Y9 (hB.ops c hc) ho.cnt fun st4 l4=>?_
  l_ints
  refine hK' _ _ (fun G k=>(congrArg (fun ρ=>G ρ _) ?_).mpr (k (l3.trans l4) (l4 _ _ h3) (some c.mv)))
  rw [List.reverse_append];rfl
 ·rintro ρ st' I2
  apply I2;intro l3 _ y
  l_ints
  have z:=hk _ (l1.trans l3)
  unfold jl at z
  rw [List.reverse_reverse];exact z
theorem Yb{m:Nat}{o:Op}:∀ {os:List Op},Yg m (o::os)=os.foldr yh m::Yg m os:=rfl
theorem YC{n u b g i:Nat}{U:Un}{B:Bk}{beg:List Nat}{st:St}{K:MV->St->Prop}(hu:UnAt st u U)(ho:jy U)(hb:BkAt st b i B)(hB:UW U.count U.blocks.length B)
  (hg:st g=some (.list (jc beg))) (hl:beg.length=U.blocks.length) (hk:Ret st (.list (jc (jj U B beg))) K):Cl (n+4) "live_behind" [.ref u,.ref b,.ref g] st K:=by
 refine jr (fn:=fn_live_behind) (by decide) rfl rfl ?_
 unfold fn_live_behind
 one_place
 l_ints
 refine Yq hu ho hb hB hg hl fun st1 l1=>?_
 obtain ⟨db,p,o,hb1,hb2,hb3⟩:=hb.le l1
 l_ints
 intro f st2 l2 n2 h2
 have hb1:=l2 _ _ hb1
 have hb3:=l2 _ _ hb3
 l_ints
 refine ⟨_,_,rfl,hb3,al fun r st3 l3 n3 h3=>j2 h3 ?_⟩
 have hne:=jw n3 h2
 have h2:=l3 _ _ h2
 rw [← List.map_reverse] at h3 ⊢
 refine lp (mv:=Op.mv) (fun pre ρ st'=>∀ G:ja->St->Prop,(Le st1 st'->st' r=some (.list (B.ops.reverse.map Op.mv))->st' f=some (.list (jc (Yg (Jf U B beg) pre.reverse).reverse))->∀ x,G [("unit",some (.ref u)),("block",some (.ref b)),("begins",some (.ref g)),("after",some (.int (pre.reverse.foldr yh (Jf U B beg):Nat))),("found",some (.ref f)),("op",x)] st')->G ρ st')
   (fun _ k=>k (l2.trans l3) h3 h2 _) (fun pre ρ st' h=>h (fun _ t=>ji _ t) fun _ h _ _=>jh h) ?_ ?_
 ·rintro pre c post e' ρ st' I1 K' hK'
  apply I1;intro l3 h3 h4 y
  have hc:c∈B.ops:=by rw [← List.mem_reverse,e'];simp
  have hlen:pre.length<1000:=by
   have:=congrArg List.length e'
   simp only [List.length_reverse,List.length_append,List.length_cons] at this
   have:=hB.opsl
   w_up
  have hbl:∀ (l:List Op) (m:Nat),(Yg m l).length=l.length:=by
   intro l m
   induction l with
   |nil=>rfl
   |cons x l ih=>rw [Yb,List.length_cons,ih,List.length_cons]
  l_ints
  refine ⟨jJ h4,?_⟩
  l_ints
  refine jI h4 h4 (by rw [je,List.length_reverse,hbl,List.length_reverse];exact Nat.lt_trans hlen (by decide)) fun st5 l5 h5=>⟨rfl,?_⟩
  l_ints
  refine Y9 (hB.ops c hc) ho.cnt fun st6 l6=>?_
  l_ints
  refine hK' _ _ (fun G k=>(congrArg (fun ρ=>G ρ _) ?_).mpr (k ((l3.lx n2 l5).trans l6) (l6 _ _ (lxg l5 hne.symm h3)) ?_ (some c.mv)))
  ·rw [List.reverse_append];rfl
  ·rw [List.reverse_append,List.reverse_singleton,List.singleton_append,Yb,List.reverse_cons,← js]
   exact l6 _ _ h5
 ·rintro ρ st' I1
  apply I1;intro l3 _ h4 y
  l_ints
  refine ⟨_,_,rfl,h4,al fun q st7 l7 n7 h7=>?_⟩
  refine hk _ _ (l1.trans (l3.trans l7)) (l1.back (l3.back n7)) ?_
  rw [h7,← List.map_reverse,List.reverse_reverse,List.reverse_reverse];rfl
theorem vz{a r:Nat}:(2 ^ a).testBit r=decide (a=r):=Nat.testBit_two_pow
theorem YI{α:Type}{f:α->Nat}{r:Nat}:∀ {xs:List α}{m:Nat},(xs.foldl (fun m x=>m ||| f x) m).testBit r↔m.testBit r\/∃ x∈xs,(f x).testBit r
 |[],m=>by simp
 |x::xs,m=>by
  rw [List.foldl_cons,YI,Nat.testBit_or]
  simp only [Bool.or_eq_true,List.mem_cons,exists_eq_or_imp]
  exact or_assoc
theorem maskOf_bit{rs:List Nat}{r:Nat}:(jg rs).testBit r↔r∈rs:=by
 unfold jg
 rw [YI (f:=fun x=>2 ^ x)]
 simp only [Nat.zero_testBit,Bool.false_eq_true,false_or,vz,decide_eq_true_eq]
 exact ⟨fun ⟨x,h,e⟩=>e▸h,fun h=>⟨r,h,rfl⟩⟩
theorem Gs{m o r:Nat}:(wo m o).testBit r↔m.testBit r/\¬ o.testBit r:=by
 unfold wo
 rw [Nat.testBit_and,Nat.testBit_xor]
 cases m.testBit r<;>cases o.testBit r<;>decide
theorem Zh{o:Op}{m r:Nat}:(yh o m).testBit r↔r∈o.reads\/(r∉o.writes/\m.testBit r):=by
 unfold yh
 rw [Nat.testBit_or,Bool.or_eq_true,Gs,maskOf_bit,maskOf_bit]
 constructor
 ·rintro (⟨a,b⟩ | h)
  ·exact Or.inr ⟨b,a⟩
  ·exact Or.inl h
 ·rintro (h | ⟨a,b⟩)
  ·exact Or.inr h
  ·exact Or.inl ⟨b,a⟩
noncomputable def UF(r:Nat):List Op->Prop
 |[]=>False
 |o::os=>r∈o.reads\/(r∉o.writes/\UF r os)
def Unw(r:Nat)(os:List Op):Prop:=∀ o∈os,r∉o.writes
theorem qt{m r:Nat}:∀ {os:List Op},(os.foldr yh m).testBit r↔UF r os\/(Unw r os/\m.testBit r)
 |[]=>by simp [UF,Unw]
 |o::os=>by
  rw [List.foldr_cons,Zh,qt]
  have e1:UF r (o::os)=(r∈o.reads\/(r∉o.writes/\UF r os)):=rfl
  rw [e1]
  unfold Unw
  simp only [List.forall_mem_cons]
  constructor
  ·rintro (h | ⟨a,h | ⟨b,c⟩⟩)
   ·exact Or.inl (Or.inl h)
   ·exact Or.inl (Or.inr ⟨a,h⟩)
   ·exact Or.inr ⟨⟨a,b⟩,c⟩
  ·rintro ((h | ⟨a,h⟩) | ⟨⟨a,b⟩,c⟩)
   ·exact Or.inl h
   ·exact Or.inr ⟨a,Or.inl h⟩
   ·exact Or.inr ⟨a,Or.inr ⟨b,c⟩⟩
set_option tactic.hygienic true in
theorem liveEnd_bit{U:Un}{B:Bk}{beg:List Nat}{r:Nat}:(Jf U B beg).testBit r↔r∈B.fin.reads\/∃ c∈B.fin.next,((beg[c]?).getD 0).testBit r/\r∉U.par c:=by
 unfold Jf
 rw [YI (f:=fun c=>wo ((beg[c]?).getD 0) (jg (U.par c))),maskOf_bit]
 simp only [Gs,maskOf_bit]
inductive Jv (U:Un) (r:Nat):Nat->Prop
 | use {i:Nat}{B:Bk}:U.blocks[i]? = some B->UF r B.ops->Jv U r i
 | fin {i:Nat}{B:Bk}:U.blocks[i]? = some B->Unw r B.ops->r∈B.fin.reads->Jv U r i
 | edge {i c:Nat}{B:Bk}:U.blocks[i]? = some B->Unw r B.ops->c∈B.fin.next->r∉U.par c->Jv U r c->Jv U r i
set_option tactic.hygienic true in
theorem liveBegin_bit{U:Un}{B:Bk}{beg:List Nat}{r:Nat}:(jl U B beg).testBit r↔UF r B.ops\/(Unw r B.ops/\(r∈B.fin.reads\/∃ c∈B.fin.next,((beg[c]?).getD 0).testBit r/\r∉U.par c)):=by
 unfold jl
 rw [qt,liveEnd_bit]
structure yg(U:Un)(beg:List Nat):Prop where
 len:beg.length=U.blocks.length
 lt:∀ m∈beg,m<2 ^ U.count
 bit:∀ i r:Nat,i<U.blocks.length->(((beg[i]?).getD 0).testBit r↔Jv U r i)
structure xB(U:Un)(beg w:List Nat):Prop where
 len:beg.length=U.blocks.length
 lt:∀ m∈beg,m<2 ^ U.count
 snd:∀ i r:Nat,((beg[i]?).getD 0).testBit r->Jv U r i
 mono:∀ (i:Nat) (B:Bk) (r:Nat),U.blocks[i]? = some B->((beg[i]?).getD 0).testBit r->(jl U B beg).testBit r
 pend:∀ (i:Nat) (B:Bk),U.blocks[i]? = some B->i∉w->jl U B beg=(beg[i]?).getD 0
 wr:∀ i∈w,i<U.blocks.length
theorem Xd{n i:Nat}:((List.replicate n 0)[i]?).getD 0=0:=by
 rw [List.getElem?_replicate];split<;>rfl
theorem Q0{U:Un}:xB U (List.replicate U.blocks.length 0) (List.range U.blocks.length) where
 len:=List.length_replicate
 lt:=fun m h=>by rw [(List.mem_replicate.mp h).2];exact Nat.two_pow_pos _
 snd:=fun i r h=>by rw [Xd] at h;simp at h
 mono:=fun i B r _ h=>by rw [Xd] at h;simp at h
 pend:=fun i B h hn=>by
  have:i<U.blocks.length:=(List.getElem?_eq_some_iff.mp h).1
  exact absurd (List.mem_range.mpr this) hn
 wr:=fun i h=>List.mem_range.mp h
theorem j0{N:Nat}{rs:List Nat}(h:∀ r∈rs,r<N):jg rs<2 ^ N:=by
 refine Nat.lt_pow_two_of_testBit _ fun i hi=>?_
 cases z:(jg rs).testBit i with
 |false=>rfl
 |true=>have:=h i (maskOf_bit.mp z);w_up
theorem zK{U:Un}{B:Bk}{beg:List Nat}(hB:UW U.count U.blocks.length B)(h:∀ m∈beg,m<2 ^ U.count):jl U B beg<2 ^ U.count:=by
 refine Nat.lt_pow_two_of_testBit _ fun i hi=>?_
 cases z:(jl U B beg).testBit i with
 |false=>rfl
 |true =>
  have uf:∀ os:List Op,(∀ o∈os,qm U.count o)->UF i os->i<U.count:=by
   intro os
   induction os with
   |nil=>intro _ h;exact h.elim
   |cons o os ih =>
    rintro ho (h | ⟨_,h⟩)
    ·exact (ho o (List.mem_cons_self ..)).1 i h
    ·exact ih (fun o h=>ho o (List.mem_cons_of_mem _ h)) h
  rcases liveBegin_bit.mp z with h' | ⟨_,h' | ⟨c,_,h',_⟩⟩
  ·have:=uf _ hB.ops h';w_up
  ·have:=hB.fin i h';w_up
  ·cases e:beg[c]? with
   |none=>rw [e] at h';simp at h'
   |some m =>
    rw [e] at h'
    have hm:=h m (List.mem_of_getElem? e)
    have:m<2 ^ i:=Nat.lt_of_lt_of_le hm (Nat.pow_le_pow_right (by decide) hi)
    rw [Option.getD_some,Nat.testBit_lt_two_pow this] at h'
    cases h'
theorem YA{beg:List Nat}{x i m:Nat}(h:x<beg.length):((beg.set x m)[i]?).getD 0=if x=i then m else (beg[i]?).getD 0:=by
 rw [List.getElem?_set]
 by_cases e:x=i
 ·subst e;simp [h]
 ·simp [e]
theorem sub_le{a b:Nat}(h:∀ r,a.testBit r->b.testBit r):a≤b:=by
 have:a &&& b=a:=by
  refine Nat.eq_of_testBit_eq fun r=>?_
  rw [Nat.testBit_and]
  cases z:a.testBit r with
  |false=>rfl
  |true=>rw [h r z];rfl
 rw [← this];exact Nat.and_le_right
set_option tactic.hygienic true in
theorem vn{U:Un}{B:Bk}{beg beg':List Nat}(h:∀ c∈B.fin.next,(beg'[c]?).getD 0=(beg[c]?).getD 0):jl U B beg'=jl U B beg:=by
 refine Nat.eq_of_testBit_eq fun r=>?_
 rw [Bool.eq_iff_iff,liveBegin_bit,liveBegin_bit]
 have e:(∃ c∈B.fin.next,((beg'[c]?).getD 0).testBit r=true/\r∉U.par c)↔∃ c∈B.fin.next,((beg[c]?).getD 0).testBit r=true/\r∉U.par c :=
  ⟨fun ⟨c,a,b,d⟩=>⟨c,a,(h c a)▸b,d⟩,fun ⟨c,a,b,d⟩=>⟨c,a,(h c a).symm▸b,d⟩⟩
 rw [e]
theorem xd{U:Un}{B:Bk}{beg beg':List Nat}(h:∀ c r:Nat,((beg[c]?).getD 0).testBit r->((beg'[c]?).getD 0).testBit r){r:Nat}(k:(jl U B beg).testBit r):(jl U B beg').testBit r:=by
 rw [liveBegin_bit] at k ⊢
 rcases k with k | ⟨a,k | ⟨c,b,k,d⟩⟩
 ·exact Or.inl k
 ·exact Or.inr ⟨a,Or.inl k⟩
 ·exact Or.inr ⟨a,Or.inr ⟨c,b,h c r k,d⟩⟩
def Qo(U:Un)(ahead:List (List Nat)):Prop:=ahead.length=U.blocks.length/\(∀ (i c:Nat) (B:Bk) (as:List Nat),U.blocks[i]? = some B->c∈B.fin.next->ahead[c]? = some as->i∈as) /\
 ∀ as∈ahead,as.length≤U.blocks.length/\∀ i∈as,i<U.blocks.length
theorem Va{U:Un}{beg w:List Nat}{x:Nat}{B:Bk}(h:xB U beg (w++[x]))(hB:U.blocks[x]? = some B)(e:jl U B beg=(beg[x]?).getD 0):xB U beg w where
 len:=h.len
 lt:=h.lt
 snd:=h.snd
 mono:=h.mono
 pend:=fun i B' hi hn=>by
  by_cases he:i=x
  ·subst he;rw [hB] at hi;cases hi;exact e
  ·exact h.pend i B' hi (by simp [hn,he])
 wr:=fun i hi=>h.wr i (by simp [hi])
set_option tactic.hygienic true in
theorem VJ{U:Un}{beg w:List Nat}{x:Nat}{B:Bk}{ahead:List (List Nat)}{as:List Nat}(ho:jy U)(ha:Qo U ahead)(h:xB U beg (w++[x]))(hB:U.blocks[x]? = some B)
  (hs:ahead[x]? = some as):xB U (beg.set x (jl U B beg)) (w++as.filter fun o=>decide (o∉w)):=by
 have hx:x<beg.length:=by rw [h.len];exact (List.getElem?_eq_some_iff.mp hB).1
 have up:∀ c r:Nat,((beg[c]?).getD 0).testBit r->(((beg.set x (jl U B beg))[c]?).getD 0).testBit r:=by
  intro c r hc
  rw [YA hx]
  split
  ·rename_i e;subst e;exact h.mono _ B r hB hc
  ·exact hc
 refine ⟨by rw [List.length_set];exact h.len,?_,?_,?_,?_,?_⟩
 ·intro m hm
  rcases List.mem_or_eq_of_mem_set hm with hm | rfl
  ·exact h.lt m hm
  ·exact zK (ho.blk B (List.mem_of_getElem? hB)) h.lt
 ·intro i r hi
  rw [YA hx] at hi
  split at hi
  ·rename_i e;subst e
   rcases liveBegin_bit.mp hi with k | ⟨a,k | ⟨c,b,k,d⟩⟩
   ·exact .use hB k
   ·exact .fin hB a k
   ·exact .edge hB a b d (h.snd c r k)
  ·exact h.snd i r hi
 ·intro i B' r hi hr
  rw [YA hx] at hr
  split at hr
  ·rename_i e;subst e;rw [hB] at hi;cases hi
   exact xd up hr
  ·exact xd up (h.mono i B' r hi hr)
 ·intro i B' hi hn
  have hni:i∉as:=fun hm=>by
   by_cases hw:i∈w
   ·exact hn (List.mem_append_left _ hw)
   ·exact hn (List.mem_append_right _ (List.mem_filter.mpr ⟨hm,by simpa using hw⟩))
  have hnx:x∉B'.fin.next:=fun hm=>hni (ha.2.1 i x B' as hi hm hs)
  have hcg:jl U B' (beg.set x (jl U B beg))=jl U B' beg:=vn fun c hc=>by
   rw [YA hx,if_neg (fun e:x=c=>hnx (by rw [e];exact hc))]
  rw [hcg,YA hx]
  split
  ·rename_i e;subst e;rw [hB] at hi;cases hi;rfl
  ·rename_i e
   exact h.pend i B' hi (by simp only [List.mem_append,List.mem_singleton,not_or];exact ⟨fun hw=>hn (List.mem_append_left _ hw),fun he=>e he.symm⟩)
 ·intro i hi
  rcases List.mem_append.mp hi with hi | hi
  ·exact h.wr i (List.mem_append_left _ hi)
  ·exact (ha.2.2 as (List.mem_of_getElem? hs)).2 i (List.mem_filter.mp hi).1
theorem gj{U:Un}{beg:List Nat}(h:xB U beg []):yg U beg where
 len:=h.len
 lt:=h.lt
 bit:=fun i r hi=>by
  refine ⟨h.snd i r,fun hl=>?_⟩
  clear hi
  induction hl with
  |use hB k=>rw [← h.pend _ _ hB (by simp)];exact liveBegin_bit.mpr (Or.inl k)
  |fin hB a k=>rw [← h.pend _ _ hB (by simp)];exact liveBegin_bit.mpr (Or.inr ⟨a,Or.inl k⟩)
  |edge hB a b d _ ih=>rw [← h.pend _ _ hB (by simp)];exact liveBegin_bit.mpr (Or.inr ⟨a,Or.inr ⟨_,b,ih,d⟩⟩)
noncomputable def zQ(U:Un)(s:List Nat×List Nat):Nat:=(s.1.map fun m=>2 ^ U.count - m).sum*(U.blocks.length+1)+s.2.length
theorem uh{f:Nat->Nat}{m x:Nat}:∀ {beg:List Nat}{i:Nat},beg[i]? = some x->f m<f x->((beg.set i m).map f).sum+1≤(beg.map f).sum
 |[],i,h,_=>by simp at h
 |y::ys,0,h,k=>by simp at h;subst h;simp;w_up
 |y::ys,i+1,h,k=>by
  have:=uh (m:=m) (f:=f) (beg:=ys) (i:=i) (by simpa using h) k
  simp only [List.set_cons_succ,List.map_cons,List.sum_cons];w_up
theorem Qx{U:Un}{beg w:List Nat}{x:Nat}{B:Bk}{ahead:List (List Nat)}{as:List Nat}(ho:jy U)(ha:Qo U ahead)(h:xB U beg (w++[x]))(hB:U.blocks[x]? = some B)
  (hs:ahead[x]? = some as) (hne:jl U B beg≠(beg[x]?).getD 0):zQ U (beg.set x (jl U B beg),w++as.filter fun o=>decide (o∉w))<zQ U (beg,w++[x]):=by
 have hx:x<beg.length:=by rw [h.len];exact (List.getElem?_eq_some_iff.mp hB).1
 obtain ⟨m,hm⟩:∃ m,beg[x]? = some m:=⟨_,List.getElem?_eq_getElem hx⟩
 rw [hm,Option.getD_some] at hne
 have hle:m≤jl U B beg:=sub_le fun r hr=>h.mono x B r hB (by rw [hm];exact hr)
 have hlt:=zK (ho.blk B (List.mem_of_getElem? hB)) h.lt
 have hs1:=uh (f:=fun m=>2 ^ U.count - m) (m:=jl U B beg) hm (Nat.sub_lt_sub_left (Nat.lt_of_le_of_lt hle hlt) (Nat.lt_of_le_of_ne hle (Ne.symm hne)))
 have hl:(as.filter fun o=>decide (o∉w)).length≤U.blocks.length:=Nat.le_trans (List.length_filter_le ..) (ha.2.2 as (List.mem_of_getElem? hs)).1
 unfold zQ
 simp only [List.length_append,List.length_singleton]
 have:=Nat.mul_le_mul_right (U.blocks.length+1) hs1
 rw [Nat.add_mul,Nat.one_mul] at this
 w_up
inductive UnQ (st:St) (u:Nat) (U:Un):Prop
 |mk (d e bl:Nat) (qs:List (Nat×Bk×Nat)) (h1:st u=some (.inst "LowUnit" d [("number",.int 0),("title",.str "u"),("is_continuation",.bool false),("entry",.ref e),("needed",.int 0),("has_rest",.bool false),("free",.int 0),("count",.int (U.count:Nat)),("blocks",.ref bl)])) (h2:st e=some (.list (jc U.entry))) (h3:st bl=some (.list (qs.map fun q=>.ref q.1))) (h4:qs.map (·.2)=U.blocks.zipIdx) (h5:∀ q∈qs,BkAt st q.1 q.2.2 q.2.1)
theorem UnAt.qs{st:St}{u:Nat}{U:Un}(h:UnAt st u U):UnQ st u U:=by
 obtain ⟨d,e,bl,bs,h1,h2,h3,h4,h5⟩:=h
 refine ⟨d,e,bl,bs.zip U.blocks.zipIdx,h1,h2,?_,?_,?_⟩
 ·rw [h3]
  have e1:(fun q:Nat×Bk×Nat=>MV.ref q.1)=MV.ref∘Prod.fst:=rfl
  rw [e1,← List.map_map,List.map_fst_zip]
  rw [List.length_zipIdx];w_up
 ·rw [show (fun q:Nat×Bk×Nat=>q.2)=Prod.snd from rfl,List.map_snd_zip]
  rw [List.length_zipIdx];w_up
 ·rintro ⟨b,B,i⟩ hq
  obtain ⟨k,hk⟩:=List.mem_iff_getElem?.mp hq
  rw [List.getElem?_zip_eq_some] at hk
  obtain ⟨hk1,hk2⟩:=hk
  rw [List.getElem?_zipIdx] at hk2
  obtain ⟨B',hB',e'⟩:=Option.map_eq_some_iff.mp hk2
  simp only [Nat.zero_add,Prod.mk.injEq] at e'
  obtain ⟨rfl,rfl⟩:=e'
  exact h5 _ _ _ hk1 hB'
theorem Z1{U:Un}{qs:List (Nat×Bk×Nat)}(hq:qs.map (·.2)=U.blocks.zipIdx){c:Nat}(hc:c<U.blocks.length):∃ b B,U.blocks[c]? = some B/\qs[c]? = some (b,B,c):=by
 have e:=congrArg (fun l=>l[c]?) hq
 simp only [List.getElem?_map,List.getElem?_zipIdx,List.getElem?_eq_getElem hc,Option.map_some,Nat.zero_add] at e
 obtain ⟨q,h1,h2⟩:=Option.map_eq_some_iff.mp e
 obtain ⟨b,q2⟩:=q
 simp only at h2
 exact ⟨b,U.blocks[c],List.getElem?_eq_getElem hc,by rw [h1,h2]⟩
theorem YX{U:Un}{qs:List (Nat×Bk×Nat)}(hq:qs.map (·.2)=U.blocks.zipIdx){q:Nat×Bk×Nat}(h:q∈qs):U.blocks[q.2.2]? = some q.2.1:=by
 have:q.2∈U.blocks.zipIdx:=by rw [← hq];exact List.mem_map_of_mem h
 obtain ⟨b,B,i⟩:=q
 exact List.mk_mem_zipIdx_iff_getElem?.mp this
theorem zp{U:Un}{qs:List (Nat×Bk×Nat)}(hq:qs.map (·.2)=U.blocks.zipIdx):qs.length=U.blocks.length:=by
 have:=congrArg List.length hq
 rwa [List.length_map,List.length_zipIdx] at this
structure LsAt(st₀ st:St)(f:Nat)(rs:List Nat)(xss:List (List Nat)):Prop where
 main:st f=some (.list (rs.map .ref))
 len:rs.length=xss.length
 nd:rs.Nodup
 new:∀ r∈rs,st₀ r=none
 off:f∉rs
 each:∀ (i r:Nat) (xs:List Nat),rs[i]? = some r->xss[i]? = some xs->st r=some (.list (jc xs))
theorem LsAt.le{st₀ st st':St}{f:Nat}{rs:List Nat}{xss:List (List Nat)}(h:LsAt st₀ st f rs xss)(l:Le st st'):LsAt st₀ st' f rs xss :=
 ⟨l _ _ h.main,h.len,h.nd,h.new,h.off,fun i r xs a b=>l _ _ (h.each i r xs a b)⟩
theorem LsAt.back{st₀ st₁ st:St}{f:Nat}{rs:List Nat}{xss:List (List Nat)}(h:LsAt st₁ st f rs xss)(l:Le st₀ st₁):LsAt st₀ st f rs xss :=
 ⟨h.main,h.len,h.nd,fun r m=>l.back (h.new r m),h.off,h.each⟩
set_option tactic.hygienic true in
theorem LsAt.set{st₀ st st':St}{f i r:Nat}{rs:List Nat}{xss:List (List Nat)}{xs:List Nat}(h:LsAt st₀ st f rs xss)(hr:rs[i]? = some r)(l:Lx [r] st st')(hx:st' r=some (.list (jc xs))):LsAt st₀ st' f rs (xss.set i xs) :=
 ⟨lxg l (fun e=>h.off (by rw [e];exact List.mem_of_getElem? hr)) h.main,by rw [List.length_set];exact h.len,h.nd,h.new,h.off,fun j q ys a b=>by
  rw [List.getElem?_set] at b
  split at b
  ·rename_i e;subst e
   rw [hr] at a;cases a
   split at b
   ·cases b;exact hx
   ·cases b
  ·rename_i hne
   refine lxg l (fun e=>?_) (h.each j q ys a b)
   subst e
   obtain ⟨hi1,hi2⟩:=List.getElem?_eq_some_iff.mp hr
   obtain ⟨hj1,hj2⟩:=List.getElem?_eq_some_iff.mp a
   exact hne ((List.getElem_inj h.nd).mp (hi2.trans hj2.symm))⟩
theorem vN{C:jt}{α:Type}{mv:α->MV}{ρ:ja}{x:String}{src:List (Nat×MObj)}{xs:List α}{st:St}{K:MV->St->Prop}(hs:ji src st)(hl:xs.length<jb)
  (hk:∀ f rs st',Le st st'->st f=none->LsAt st st' f rs (xs.map fun _=>[])->K (.ref f) st') :
  YB src (fun v st₂ K'=>y0 (.one x) v ρ st₂ fun ρ'=>wpE C (.list []) ρ' st₂ fun v st₃=>K' (some v) st₃) (xs.map mv) [] st fun ys st₅=>uQ st₅ ys K:=by
 refine cpA (mv:=mv) (fun pre acc st'=>Le st st'/\∃ rs:List Nat,acc=rs.map .ref/\rs.length=pre.length/\rs.Nodup/\∀ r∈rs,st r=none/\st' r=some (.list [])) ⟨Le.refl,[],rfl,rfl,List.nodup_nil,fun r h=>by simp at h⟩ ?_ ?_ ?_
 ·rintro pre acc st' ⟨l,_⟩
  exact fun p hp=>l _ _ (hs p hp)
 ·rintro pre y post e acc st' ⟨l,rs,rfl,h1,h2,h3⟩ K' hK'
  refine Qp (qN (Jc (lb0 (al fun a st2 l2 n2 h4=>?_))))
  have ha:a∉rs:=fun hm=>by rw [(h3 a hm).2] at n2;cases n2
  refine hK' _ _ ⟨l.trans l2,rs++[a],by simp,by simp [h1],?_,?_⟩
  ·rw [List.nodup_append]
   refine ⟨h2,by simp,fun x hx y hy=>?_⟩
   rw [List.mem_singleton.mp hy]
   exact fun e=>ha (e▸hx)
  ·intro r hr
   rcases List.mem_append.mp hr with hr | hr
   ·exact ⟨(h3 r hr).1,l2 _ _ (h3 r hr).2⟩
   ·rw [List.mem_singleton.mp hr];exact ⟨l.back n2,h4⟩
 ·rintro acc st' ⟨l,rs,rfl,h1,h2,h3⟩
  refine cal (by rw [List.length_map,h1];exact hl) fun f st2 l2 n2 h4=>?_
  have hf:f∉rs:=fun hm=>by rw [(h3 f hm).2] at n2;cases n2
  refine hk f rs st2 (l.trans l2) (l.back n2) ⟨h4,by rw [List.length_map];exact h1,h2,fun r hr=>(h3 r hr).1,hf,fun i r ys a b=>?_⟩
  rw [List.getElem?_map] at b
  obtain ⟨_,_,rfl⟩:=Option.map_eq_some_iff.mp b
  exact l2 _ _ (h3 r (List.mem_of_getElem? a)).2
noncomputable def jp(i:Nat)(f:List (List Nat))(c:Nat):List (List Nat):=if i∈(f[c]?).getD [] then f else f.set c ((f[c]?).getD []++[i])
noncomputable def xF(ps:List (Bk×Nat))(f:List (List Nat)):List (List Nat):=ps.foldl (fun f p=>p.1.fin.next.foldl (jp p.2) f) f
noncomputable def JD(U:Un):List (List Nat):=U.blocks.zipIdx.foldl (fun f p=>p.1.fin.next.foldl (jp p.2) f) (U.blocks.map fun _=>[])
theorem xV{i c:Nat}{f:List (List Nat)}:(jp i f c).length=f.length:=by
 unfold jp;split<;>simp
theorem yj{i:Nat}:∀ {cs:List Nat}{f:List (List Nat)},(cs.foldl (jp i) f).length=f.length
 |[],f=>rfl
 |c::cs,f=>by rw [List.foldl_cons,yj,xV]
set_option tactic.hygienic true in
theorem JS:∀ {ps:List (Bk×Nat)}{f:List (List Nat)},(ps.foldl (fun f p=>p.1.fin.next.foldl (jp p.2) f) f).length=f.length
 |[],f=>rfl
 |p::ps,f=>by rw [List.foldl_cons,JS,yj]
def qY(M:Nat)(f:List (List Nat)):Prop:=∀ xs∈f,xs.Nodup/\∀ x∈xs,x<M
theorem JF{M:Nat}{xs:List Nat}(h:xs.Nodup/\∀ x∈xs,x<M):xs.length≤M:=by
 have:=List.Nodup.length_le_of_subset (l₂:=List.range M) h.1 fun x hx=>List.mem_range.mpr (h.2 x hx)
 rwa [List.length_range] at this
set_option tactic.hygienic true in
theorem Gw{M i c:Nat}{f:List (List Nat)}(h:qY M f)(hi:i<M):qY M (jp i f c):=by
 unfold jp
 split
 ·exact h
 ·rename_i hn
  intro xs hx
  rcases List.mem_or_eq_of_mem_set hx with hx | rfl
  ·exact h xs hx
  ·cases z:f[c]? with
   |none=>simp [hi]
   |some ys =>
    rw [z] at hn
    simp only [Option.getD_some] at hn ⊢
    have:=h ys (List.mem_of_getElem? z)
    refine ⟨?_,fun x hx=>?_⟩
    ·rw [List.nodup_append]
     exact ⟨this.1,by simp,fun a ha b hb=>by rw [List.mem_singleton.mp hb];exact fun e=>hn (e▸ha)⟩
    ·rcases List.mem_append.mp hx with hx | hx
     ·exact this.2 x hx
     ·rw [List.mem_singleton.mp hx];exact hi
theorem zj{M i:Nat}:∀ {cs:List Nat}{f:List (List Nat)},qY M f->i<M->qY M (cs.foldl (jp i) f)
 |[],f,h,_=>h
 |c::cs,f,h,hi=>zj (cs:=cs) (Gw h hi) hi
set_option tactic.hygienic true in
theorem J7{M:Nat}:∀ {ps:List (Bk×Nat)}{f:List (List Nat)},qY M f->(∀ p∈ps,p.2<M)->qY M (ps.foldl (fun f p=>p.1.fin.next.foldl (jp p.2) f) f)
 |[],f,h,_=>h
 |p::ps,f,h,hi=>J7 (ps:=ps) (zj h (hi p (List.mem_cons_self ..))) fun q hq=>hi q (List.mem_cons_of_mem _ hq)
theorem zg{M:Nat}{U:Un}:qY M (U.blocks.map fun _=>[]):=fun xs hx=>by
 obtain ⟨_,_,rfl⟩:=List.mem_map.mp hx
 simp
set_option tactic.hygienic true in
theorem X2{i c k:Nat}{f:List (List Nat)}{x:Nat}(h:x∈(f[k]?).getD []):x∈((jp i f c)[k]?).getD []:=by
 unfold jp
 split
 ·exact h
 ·rw [List.getElem?_set]
  split
  ·rename_i e;subst e
   split
   ·simp only [Option.getD_some];exact List.mem_append_left _ h
   ·rename_i hl
    rw [List.getElem?_eq_none (by w_up)] at h;simp at h
  ·exact h
theorem Z7{i c:Nat}{f:List (List Nat)}(hc:c<f.length):i∈((jp i f c)[c]?).getD []:=by
 unfold jp
 split
 ·assumption
 ·rw [List.getElem?_set];simp [hc]
theorem Yp{i k x:Nat}:∀ {cs:List Nat}{f:List (List Nat)},x∈(f[k]?).getD []->x∈((cs.foldl (jp i) f)[k]?).getD []
 |[],f,h=>h
 |c::cs,f,h=>Yp (cs:=cs) (X2 h)
theorem zF{i c:Nat}:∀ {cs:List Nat}{f:List (List Nat)},c∈cs->c<f.length->i∈((cs.foldl (jp i) f)[c]?).getD []
 |[],f,h,_=>by simp at h
 |d::cs,f,h,hl=>by
  rw [List.foldl_cons]
  rcases List.mem_cons.mp h with rfl | h
  ·exact Yp (Z7 hl)
  ·exact zF h (by rw [xV];exact hl)
set_option tactic.hygienic true in
theorem zT{k x:Nat}:∀ {ps:List (Bk×Nat)}{f:List (List Nat)},x∈(f[k]?).getD []->x∈((ps.foldl (fun f p=>p.1.fin.next.foldl (jp p.2) f) f)[k]?).getD []
 |[],f,h=>h
 |p::ps,f,h=>zT (ps:=ps) (Yp h)
theorem qZ{c:Nat}{q:Bk×Nat}:∀ {ps:List (Bk×Nat)}{f:List (List Nat)},q∈ps->c∈q.1.fin.next->c<f.length->q.2∈((ps.foldl (fun f p=>p.1.fin.next.foldl (jp p.2) f) f)[c]?).getD []
 |[],f,h,_,_=>by simp at h
 |p::ps,f,h,hc,hl=>by
  rw [List.foldl_cons]
  rcases List.mem_cons.mp h with rfl | h
  ·exact zT (zF hc hl)
  ·exact qZ h hc (by rw [yj];exact hl)
theorem gJ{U:Un}:∀ as∈JD U,as.Nodup:=fun as h=>(J7 (M:=U.blocks.length) zg (fun p hp=>by
  obtain ⟨B,i⟩:=p
  exact (List.getElem?_eq_some_iff.mp (List.mk_mem_zipIdx_iff_getElem?.mp hp)).1) as h).1
set_option tactic.hygienic true in
theorem gq{U:Un}(ho:jy U):Qo U (JD U):=by
 have hsm:qY U.blocks.length (JD U):=J7 zg fun p hp=>by
  obtain ⟨B,i⟩:=p
  exact (List.getElem?_eq_some_iff.mp (List.mk_mem_zipIdx_iff_getElem?.mp hp)).1
 refine ⟨by unfold JD;rw [JS,List.length_map],fun i c B as hB hc hs=>?_,fun as h=>⟨JF (hsm as h),(hsm as h).2⟩⟩
 have:=qZ (q:=(B,i)) (ps:=U.blocks.zipIdx) (f:=U.blocks.map fun _=>[]) (List.mk_mem_zipIdx_iff_getElem?.mpr hB) hc (by rw [List.length_map];exact (ho.blk B (List.mem_of_getElem? hB)).next c hc)
 rw [show U.blocks.zipIdx.foldl _ _=JD U from rfl,hs] at this
 exact this
theorem LsAt.out{st₀ st:St}{f q:Nat}{rs:List Nat}{xss:List (List Nat)}(h:LsAt st₀ st f rs xss)(n:st q=none):q∉rs:=fun hm=>by
 obtain ⟨i,hi⟩:=List.mem_iff_getElem?.mp hm
 have hl:i<xss.length:=by rw [← h.len];exact (List.getElem?_eq_some_iff.mp hi).1
 have:=h.each i q _ hi (List.getElem?_eq_getElem hl)
 rw [n] at this;cases this
theorem gg{i c:Nat}{f:List (List Nat)}{xs:List Nat}(e:f[c]? = some xs)(h:i∈xs):jp i f c=f:=by
 unfold jp;rw [e,Option.getD_some,if_pos h]
theorem Q9{i c:Nat}{f:List (List Nat)}{xs:List Nat}(e:f[c]? = some xs)(h:i∉xs):jp i f c=f.set c (xs++[i]):=by
 unfold jp;rw [e,Option.getD_some,if_neg h]
theorem LsAt.get{st₀ st:St}{f i:Nat}{rs:List Nat}{xss:List (List Nat)}(h:LsAt st₀ st f rs xss)(hi:i<xss.length):∃ r xs,rs[i]? = some r/\xss[i]? = some xs/\st r=some (.list (jc xs)):=by
 have h1:rs[i]? = some (rs[i]'(by rw [h.len];exact hi)):=List.getElem?_eq_getElem _
 have h2:xss[i]? = some xss[i]:=List.getElem?_eq_getElem _
 exact ⟨_,_,h1,h2,h.each _ _ _ h1 h2⟩
theorem Yy{rs:List Nat}{i r:Nat}(h:rs[i]? = some r):(rs.map MV.ref)[i]? = some (.ref r):=by rw [List.getElem?_map,h];rfl
set_option tactic.hygienic true in
theorem qk{n u:Nat}{U:Un}{st:St}{K:MV->St->Prop}(hu:UnAt st u U)(ho:jy U)
  (hk:∀ f rs st',Le st st'->st f=none->LsAt st st' f rs (JD U)->K (.ref f) st'):Cl (n+2) "blocks_ahead" [.ref u] st K:=by
 refine jr (fn:=fn_blocks_ahead) (by decide) rfl rfl ?_
 unfold fn_blocks_ahead
 one_place
 obtain ⟨d,e,bl,qs,h1,h2,h3,h4,h5⟩:=hu.qs
 have hql:qs.length<1000:=by rw [zp h4];exact Nat.lt_trans ho.nb (by decide)
 l_ints
 refine vN (jh h3) (Nat.lt_trans hql (by decide)) fun f rs st1 l1 n1 hL=>?_
 have e1:(qs.map fun _=>([]:List Nat))=U.blocks.map fun _=>[]:=by
  rw [List.map_const',List.map_const',zp h4]
 rw [e1] at hL
 have h1':=l1 _ _ h1
 have h3':=l1 _ _ h3
 l_ints
 refine lp (mv:=fun q:Nat×Bk×Nat=>MV.ref q.1) (fun pre ρ st'=>∀ G:ja->St->Prop,(Le st st'->(LsAt st st' f rs (xF (pre.map Prod.snd) (U.blocks.map fun _=>[])))->∀ x y,G [("unit",some (.ref u)),("found",some (.ref f)),("block",x),("number",y)] st')->G ρ st')
   (fun _ k=>k l1 hL _ _) (fun pre ρ st' h=>h (fun _ t=>ji _ t) fun n0 _ _ _=>jh (n0 _ _ h3)) ?_ ?_
 ·rintro pre q post eq ρ st2 I2 K' hK'
  apply I2;intro l2 hL x y
  obtain ⟨b,B,i⟩:=q
  have hm:(b,B,i)∈qs:=by rw [eq];simp
  have hBi:=YX h4 hm
  have hBok:=ho.blk B (List.mem_of_getElem? hBi)
  have hilt:i<U.blocks.length:=(List.getElem?_eq_some_iff.mp hBi).1
  obtain ⟨db,pb,ob,hb1,hb2,hb3⟩:=h5 _ hm
  have hb1':=l2 _ _ hb1
  l_ints
  refine Y8 fun q st3 l3 n3 h6=>?_
  have hqn:=hL.out n3
  have l23:=l2.trans l3
  refine j2 h6 ?_
  refine lp (mv:=fun r:Nat=>MV.int (r:Int)) (fun pr ρ st'=>∀ G:ja->St->Prop,(Le st st'->(LsAt st st' f rs (pr.foldl (jp i) (xF (pre.map Prod.snd) (U.blocks.map fun _=>[]))))->st' q=some (.list (jc B.fin.next))->∀ y,G [("unit",some (.ref u)),("found",some (.ref f)),("block",some (.ref b)),("number",y)] st')->G ρ st')
    (fun _ k=>k l23 (hL.le l3) h6 _) (fun pre ρ st' h=>h (fun _ t=>ji _ t) fun _ _ n2 _=>jh n2) ?_ ?_
  ·rintro pr c ps ec ρ st4 I1 K1 hK1
   apply I1;intro l4 hL h6 y
   have hc:=hBok.next c (by rw [ec];simp)
   have hlen:(pr.foldl (jp i) (xF (pre.map Prod.snd) (U.blocks.map fun _=>[]))).length=U.blocks.length:=by
    rw [yj];unfold xF;rw [JS,List.length_map]
   obtain ⟨r,xs,hr,hxs,hrx⟩:=hL.get (i:=c) (by rw [hlen];exact hc)
   have hb1:=l4 _ _ hb1
   have hnew:=hL.new r (List.mem_of_getElem? hr)
   have hqr:q≠r:=fun e=>hqn (by rw [e];exact List.mem_of_getElem? hr)
   l_ints
   refine s_l (v:=.ref r) hL.main (Yy hr) ?_
   l_ints
   refine YZ hrx ?_
   refine yQ (fun hn=>?_) fun hn=>?_
   ·l_ints
    refine s_l (v:=.ref r) hL.main (Yy hr) ?_
    refine ⟨jJ hrx,?_⟩
    l_ints
    have hsm:=zj (cs:=pr) (i:=i) (J7 (ps:=pre.map Prod.snd) (zg (M:=U.blocks.length) (U:=U)) (fun p hp=>by
     obtain ⟨q',hq',rfl⟩:=List.mem_map.mp hp
     exact (List.getElem?_eq_some_iff.mp (YX h4 (q:=q') (by rw [eq];simp [hq']))).1)) hilt
    have hxl:=JF (hsm xs (List.mem_of_getElem? hxs))
    refine jI hrx hrx (by rw [je];exact Nat.lt_of_le_of_lt hxl (Nat.lt_trans ho.nb (by decide))) fun st5 l5 h7=>⟨rfl,?_⟩
    l_ints
    have hst:=hL.set (xs:=xs++[i]) hr l5 (by rw [← js];exact h7)
    refine hK1 _ _ (fun _ k=>k (l4.lx hnew l5) ?_ (lxg l5 hqr h6) _)
    rw [List.foldl_append,List.foldl_cons,List.foldl_nil]
    rw [Q9 hxs hn]
    exact hst
   ·l_ints
    refine hK1 _ _ (fun _ k=>k l4 ?_ h6 _)
    rw [List.foldl_append,List.foldl_cons,List.foldl_nil]
    rw [gg hxs (Decidable.not_not.mp hn)]
    exact hL
  ·rintro ρ st4 I1
   apply I1;intro l4 hL h6 y
   l_ints
   refine hK' _ _ (fun _ k=>k l4 ?_ _ _)
   unfold xF at hL ⊢
   rw [List.map_append,List.foldl_append]
   exact hL
 ·rintro ρ st2 I2
  apply I2;intro l2 hL x y
  rw [show qs.map Prod.snd=U.blocks.zipIdx from h4] at hL
  l_ints
  exact hk f rs st2 l2 n1 hL
theorem Yl{α:Type}{l:List α}(h:l≠[]):∃ w x,l=w++[x]:=⟨l.dropLast,l.getLast h,(List.dropLast_concat_getLast h).symm⟩
theorem JC{l:List Nat}:(jc l).isEmpty=l.isEmpty:=by cases l<;>rfl
theorem j9{l:List Nat}{i x:Nat}(h:l[i]? = some x):(jc l)[i]? = some (.int (x:Nat)):=by rw [List.getElem?_map,h];rfl
theorem xA{n u:Nat}{U:Un}{st:St}{K:MV->St->Prop}(hu:UnAt st u U)(ho:jy U)
  (hk:∀ g beg st',Le st st'->st g=none->st' g=some (.list (jc beg))->yg U beg->K (.ref g) st'):Cl (n+5) "begins_of" [.ref u] st K:=by
 refine jr (fn:=fn_begins_of) (by decide) rfl rfl ?_
 unfold fn_begins_of
 one_place
 obtain ⟨d,e,bl,qs,h1,h2,h3,h4,h5⟩:=hu.qs
 have hql:qs.length=U.blocks.length:=zp h4
 have hnb:=ho.nb
 have hml:(qs.map fun q:Nat×Bk×Nat=>MV.ref q.1).length=U.blocks.length:=by rw [List.length_map];exact hql
 l_ints
 intro z st1 l1 n1 hz
 have h1a:=l1 _ _ h1
 have h3a:=l1 _ _ h3
 l_ints
 refine Jq h3a (o0 hz (by rw [List.length_map,hql];exact Nat.lt_trans hnb (by decide)) fun g st2 l2 n2 hg=>?_)
 have hg:st2 g=some (.list (jc (List.replicate U.blocks.length 0))):=by
  rw [hg,List.length_map,hql];unfold jc;rw [List.map_replicate];rfl
 have h1b:=l2 _ _ h1a
 have h3b:=l2 _ _ h3a
 have l12:=l1.trans l2
 l_ints
 refine Jq h3b ?_
 refine ⟨_,rfl,⟨Int.natCast_nonneg _,by rw [List.length_map,hql];exact Int.ofNat_lt.mpr (Nat.lt_trans hnb (by decide))⟩,?_⟩
 rw [Int.toNat_natCast,hml]
 refine ⟨by rw [List.length_map,List.length_range];exact Nat.lt_trans hnb (by decide),al fun w st3 l3 n3 hw=>?_⟩
 have hg3:=l3 _ _ hg
 have hgw:g≠w:=jw n3 hg
 have l123:=l12.trans l3
 l_ints
 refine qk (hu.le l123) ho fun f rs st4 l4 n4 hL=>?_
 have hg4:=l4 _ _ hg3
 have hw4:=l4 _ _ hw
 have l1234:=l123.trans l4
 have ng:g∉rs:=fun hm=>by rw [hL.new g hm] at hg3;cases hg3
 have nw:w∉rs:=fun hm=>by rw [hL.new w hm] at hw;cases hw
 have nfg:f≠g:=fun e=>by rw [e,hg3] at n4;cases n4
 have nfw:f≠w:=fun e=>by rw [e,hw] at n4;cases n4
 have n0g:=l1.back n2
 have n0w:=l12.back n3
 have hah:=gq ho
 l_ints
 refine jaG (fun (s:List Nat×List Nat) ρ st'=>xB U s.1 s.2/\s.2.Nodup/\Le st st'/\st' g=some (.list (jc s.1))/\st' w=some (.list (jc s.2))/\LsAt st st' f rs (JD U) /\
   ∃ x y,ρ=[("unit",some (.ref u)),("begins",some (.ref g)),("waiting",some (.ref w)),("ahead",some (.ref f)),("number",x),("found",y)]) (zQ U) (s:=(List.replicate U.blocks.length 0,List.range U.blocks.length))
  ⟨Q0,List.nodup_range,l1234,hg4,hw4,hL.back l123,_,_,rfl⟩ ?_
 rintro ⟨beg,wt⟩ ρ st5 ⟨hI,hwl,l5,hg5,hw5,hL5,x,y,rfl⟩ Kw hKw
 simp only at hI hwl hg5 hw5
 l_ints
 intro z5 st6 l6 n6 h6
 have l56:=l5.trans l6
 have hg6:=l6 _ _ hg5
 have hw6:=l6 _ _ hw5
 have hL6:=hL5.le l6
 refine G5 hw6 h6 ?_
 rw [JC]
 refine JV (fun hb=>?_) fun hb=>?_
 ·have hne:wt≠[]:=by intro e;subst e;cases hb
  obtain ⟨w',q,rfl⟩:=Yl hne
  have hq:=hI.wr q (by simp)
  obtain ⟨b,B,hB,hqs⟩:=Z1 h4 hq
  have h1c:=l56 _ _ h1
  have h3c:=l56 _ _ h3
  l_ints
  refine ⟨jac hw6,?_⟩
  l_ints
  refine Ow (xs:=jc w') (v:=.int (q:Nat)) (by rw [hw6,← js];rfl) fun st7 l7 hw7=>?_
  have l57:=l56.lx n0w l7
  have hg7:=lxg l7 hgw hg6
  have h1d:=l57 _ _ h1
  have h3d:=l57 _ _ h3
  have hL7:LsAt st st7 f rs (JD U):=⟨lxg l7 nfw hL6.main,hL6.len,hL6.nd,hL6.new,hL6.off,fun i r xs a b=>lxg l7 (fun e=>nw (by rw [← e];exact List.mem_of_getElem? a)) (hL6.each i r xs a b)⟩
  have hbt:BkAt st7 b q B:=(h5 _ (List.mem_of_getElem? hqs)).le l57
  have hgq:beg[q]? = some (beg[q]'(by rw [hI.len];exact hq)):=List.getElem?_eq_getElem _
  obtain ⟨m,hm⟩:∃ m,beg[q]? = some m:=⟨_,hgq⟩
  l_ints
  refine s_l (v:=.ref b) h3d (by rw [List.getElem?_map,hqs];rfl) ?_
  l_ints
  refine x7 (hu.le l57) ho hbt (ho.blk B (List.mem_of_getElem? hB)) hg7 hI.len fun st8 l8=>?_
  have l58:=l57.trans l8
  have hg8:=l8 _ _ hg7
  have hw8:=l8 _ _ hw7
  have hL8:=hL7.le l8
  l_ints
  refine s_l hg8 (j9 hm) ?_
  refine QZ ?_
  have hwl':w'.Nodup:=(List.nodup_append.mp hwl).1
  have hwlen:w'.length≤U.blocks.length:=JF ⟨hwl',fun x hx=>hI.wr x (by simp [hx])⟩
  refine yQ (fun hn=>?_) fun hn=>?_
  ·have hne':jl U B beg≠(beg[q]?).getD 0:=by rw [hm];exact hn
   l_ints
   refine Zx hg8 (by rw [je,hI.len];exact hq) fun st9 l9 hg9=>?_
   have hg9:st9 g=some (.list (jc (beg.set q (jl U B beg)))):=by rw [hg9];unfold jc;rw [List.map_set]
   have l59:=l58.lx n0g l9
   have hw9:=lxg l9 hgw.symm hw8
   have hL9:LsAt st st9 f rs (JD U):=⟨lxg l9 nfg hL8.main,hL8.len,hL8.nd,hL8.new,hL8.off,fun i r xs a b=>lxg l9 (fun e=>ng (by rw [← e];exact List.mem_of_getElem? a)) (hL8.each i r xs a b)⟩
   obtain ⟨r,as,hr,has,hra⟩:=hL9.get (i:=q) (by rw [hah.1];exact hq)
   l_ints
   refine ⟨JG hw9,?_⟩
   l_ints
   refine s_l (v:=.ref r) hL9.main (Yy hr) ?_
   refine j2 hra ?_
   refine cp (mv:=fun r:Nat=>MV.int (r:Int)) (fun _ st'=>st'=st9) (fun x=>if decide (x∉w') then some (.int (x:Int)) else none) rfl (fun _ st' e=>by rw [e];exact jh hra) ?_ ?_
   ·rintro pre1 y1 post1 e1 st' rfl K1 hK1
    l_ints
    refine YZ hw9 ?_
    refine yQ (fun hn=>?_) fun hn=>?_
    ·l_ints
     have z:=hK1 _ rfl
     rw [decide_eq_true hn] at z;exact z
    ·have z:=hK1 _ rfl
     rw [decide_eq_false hn] at z;exact z
   ·rintro st' rfl
    have hal:=(hah.2.2 as (List.mem_of_getElem? has)).1
    have hfl:(as.filter fun o=>decide (o∉w')).length≤U.blocks.length:=Nat.le_trans (List.length_filter_le ..) hal
    have hdec:=Qx ho hah hI hB has hne'
    have hinv:=VJ ho hah hI hB has
    refine YD zv (Nat.lt_of_le_of_lt hfl (Nat.lt_trans hnb (by decide))) fun o st10 l10 n10 h10=>?_
    l_ints
    refine Yw hw9 (l10 _ _ hw9) (jw n10 hw9) h10 (by rw [je,je];unfold jb;w_up) fun st11 l11 h11=>⟨rfl,?_⟩
    l_ints
    have hL10:=hL9.le l10
    rw [js] at h11
    refine hKw (beg.set q (jl U B beg),w'++as.filter fun o=>decide (o∉w')) _ _ hdec ⟨hinv,?_,(l59.trans l10).lx n0w l11,lxg l11 hgw (l10 _ _ hg9),h11,
     ⟨lxg l11 nfw hL10.main,hL10.len,hL10.nd,hL10.new,hL10.off,fun i r xs a b=>lxg l11 (fun e=>nw (by rw [← e];exact List.mem_of_getElem? a)) (hL10.each i r xs a b)⟩,_,_,rfl⟩
    rw [List.nodup_append]
    refine ⟨hwl',(gJ as (List.mem_of_getElem? has)).filter _,fun a ha b hb e=>?_⟩
    have:=(List.mem_filter.mp hb).2
    rw [← e] at this
    simp only [decide_eq_true_eq] at this
    exact this ha
  ·have he':jl U B beg=(beg[q]?).getD 0:=by rw [hm];exact Decidable.not_not.mp hn
   l_ints
   refine hKw (beg,w') _ _ ?_ ⟨Va hI hB he',hwl',l58,hg8,hw8,hL8,_,_,rfl⟩
   unfold zQ
   simp only [List.length_append,List.length_singleton];w_up
 ·have hwe:wt=[]:=by
   cases wt with
   |nil=>rfl
   |cons a b=>cases hb
  subst hwe
  l_ints
  exact hk g beg _ l56 n0g hg6 (gj hI)
noncomputable def zD(N:Nat)(ms:List Nat)(r mask:Nat):List Nat :=
 (jn N (wo mask (2 ^ r))).foldl (fun ms x=>ms.set x ((ms[x]?).getD 0 ||| 2 ^ r)) (ms.set r ((ms[r]?).getD 0 ||| wo mask (2 ^ r)))
theorem xe{f:List Nat->Nat->Nat}:∀ {xs ms:List Nat},(xs.foldl (fun ms x=>ms.set x (f ms x)) ms).length=ms.length
 |[],ms=>rfl
 |x::xs,ms=>by rw [List.foldl_cons,xe,List.length_set]
theorem Zs{N r mask:Nat}{ms:List Nat}:(zD N ms r mask).length=ms.length:=by
 unfold zD
 rw [xe (f:=fun ms x=>(ms[x]?).getD 0 ||| 2 ^ r),List.length_set]
theorem jaw{m o N:Nat}(h:m<2 ^ N):wo m o<2 ^ N:=Nat.lt_of_le_of_lt Nat.and_le_left h
theorem yT{N m x:Nat}(h:x∈jn N m):x<N:=List.mem_range.mp (List.mem_filter.mp h).1
def ApAt(st:St)(a m:Nat)(ms:List Nat):Prop:=∃ d,st a=some (.inst "Apart" d [("masks",.ref m)])/\st m=some (.list (jc ms))
theorem ApAt.le{st st':St}{a m:Nat}{ms:List Nat}(h:ApAt st a m ms)(l:Le st st'):ApAt st' a m ms:=by
 obtain ⟨d,h1,h2⟩:=h
 exact ⟨d,l _ _ h1,l _ _ h2⟩
theorem Xr{n a m r mask N:Nat}{ms:List Nat}{st:St}{K:MV->St->Prop}(h:ApAt st a m ms)(hl:ms.length=N)(hN:N<1000)(hr:r<N)(hm:mask<2 ^ N)
  (hk:∀ st',Lx [m] st st'->ApAt st' a m (zD N ms r mask)->K .none st'):Cl (n+2) "Apart.put" [.ref a,.int r,.int mask] st K:=by
 refine jr (fn:=fn_Apart_put) (by decide) rfl rfl ?_
 unfold fn_Apart_put
 one_place
 obtain ⟨d,h1,h2⟩:=h
 have ham:a≠m:=fun e=>by rw [e,h2] at h1;cases h1
 l_ints
 refine uJ (by w_up) ?_
 l_ints
 refine Y3 ?_
 obtain ⟨x,hx⟩:∃ x,ms[r]? = some x:=⟨_,List.getElem?_eq_getElem (by w_up)⟩
 l_ints
 refine s_l h2 (j9 hx) ?_
 l_ints
 refine Zx h2 (by rw [je];w_up) fun st1 l1 h3=>?_
 have h3:st1 m=some (.list (jc (ms.set r ((ms[r]?).getD 0 ||| wo mask (2 ^ r))))):=by rw [h3,hx];unfold jc;rw [List.map_set];rfl
 have h1:=lxg l1 ham h1
 l_ints
 refine YS (jaw hm) (by w_up) fun b st2 l2 n2 hb=>?_
 have l12:Lx [m] st st2:=l1.trans (Lx.of l2)
 have hbm:b≠m:=fun e=>by rw [e,h3] at n2;cases n2
 refine j2 hb ?_
 refine lp (mv:=fun r:Nat=>MV.int (r:Int)) (fun pre ρ st'=>∀ G:ja->St->Prop,(Lx [m] st st'->st' a=some (.inst "Apart" d [("masks",.ref m)])->st' b=some (.list (jc (jn N (wo mask (2 ^ r)))))->(st' m=some (.list (jc (pre.foldl (fun ms x=>ms.set x ((ms[x]?).getD 0 ||| 2 ^ r)) (ms.set r ((ms[r]?).getD 0 ||| wo mask (2 ^ r)))))))->∀ y,G [("self",some (.ref a)),("register",some (.int (r:Nat))),("mask",some (.int (mask:Nat))),("others",some (.int (wo mask (2 ^ r):Nat))),("other",y)] st')->G ρ st')
   (fun _ k=>k l12 (l2 _ _ h1) hb (l2 _ _ h3) _) (fun _ _ _ h=>h (fun _ t=>ji _ t) fun _ _ n2 _ _=>jh n2) ?_ ?_
 ·rintro pre x post e ρ st3 I1 K' hK'
  apply I1;intro l3 h4 hb3 h5 y
  have hxN:x<N:=yT (m:=wo mask (2 ^ r)) (by rw [e];simp)
  have hlen:(pre.foldl (fun ms x=>ms.set x ((ms[x]?).getD 0 ||| 2 ^ r)) (ms.set r ((ms[r]?).getD 0 ||| wo mask (2 ^ r)))).length=N:=by
   rw [xe (f:=fun ms x=>(ms[x]?).getD 0 ||| 2 ^ r),List.length_set,hl]
  generalize hcur:pre.foldl (fun ms x=>ms.set x ((ms[x]?).getD 0 ||| 2 ^ r)) (ms.set r ((ms[r]?).getD 0 ||| wo mask (2 ^ r)))=cur at *
  obtain ⟨v,hv⟩:∃ v,cur[x]? = some v:=⟨_,List.getElem?_eq_getElem (by w_up)⟩
  l_ints
  refine s_l h5 (j9 hv) ?_
  l_ints
  refine uJ (by w_up) ?_
  l_ints
  refine Zx h5 (by rw [je];w_up) fun st4 l4 h6=>?_
  l_ints
  refine hK' _ _ (fun _ k=>k (l3.trans l4) (lxg l4 ham h4) (lxg l4 hbm hb3) ?_ _)
  rw [List.foldl_append,List.foldl_cons,List.foldl_nil,hcur,h6,hv]
  unfold jc;rw [List.map_set];rfl
 ·rintro ρ st3 I1
  apply I1;intro l3 h4 hb3 h5 y
  l_ints
  exact hk _ l3 ⟨d,h4,h5⟩
theorem Xm{n a m r q:Nat}{ms:List Nat}{st:St}{K:MV->St->Prop}(h:ApAt st a m ms)(hr:r<ms.length)(hq:q<1000)
  (hk:K (.bool (((ms[r]?).getD 0).testBit q)) st):Cl (n+2) "Apart.are_apart" [.ref a,.int r,.int q] st K:=by
 refine jr (fn:=fn_Apart_are_apart) (by decide) rfl rfl ?_
 unfold fn_Apart_are_apart
 one_place
 obtain ⟨d,h1,h2⟩:=h
 obtain ⟨v,hv⟩:∃ v,ms[r]? = some v:=⟨_,List.getElem?_eq_getElem hr⟩
 rw [hv] at hk
 l_ints
 refine s_l h2 (j9 hv) ?_
 l_ints
 exact zu (by w_up) hk
theorem Xf{n N:Nat}{st:St}{K:MV->St->Prop}(hN:N<1000)
  (hk:∀ a m st',Le st st'->st a=none->st m=none->ApAt st' a m (List.replicate N 0)->K (.ref a) st'):Cl (n+2) "Apart" [.int N] st K:=by
 refine ZV (by decide) fun a d st1 l0 na h1=>?_
 refine jr (f:="Apart.__init__") (fn:=fn_Apart_init) (by decide) rfl rfl ?_
 unfold fn_Apart_init
 one_place
 l_ints
 intro z st2 l2 n2 hz
 l_ints
 refine o0 hz (Nat.lt_trans hN (by decide)) fun m st3 l3 n3 hm=>?_
 have h1:=l3 _ _ (l2 _ _ h1)
 l_ints
 refine sax h1 (by decide) fun st4 l4 h4=>?_
 l_ints
 have hma:m≠a:=fun e=>by rw [e,h1] at hm;cases hm
 exact ⟨rfl,hk a m st4 ((l0.trans (l2.trans l3)).lx na l4) na (l0.back (l2.back n3)) ⟨d,h4,lxg l4 hma (by rw [hm];unfold jc;rw [List.map_replicate];rfl)⟩⟩
structure Tm where
 num:Nat
 pos:Int
 given:List Nat
 all:Nat
 op:Option Op
noncomputable def Tm.am(t:Tm):Nat:=match t.op with
 |some (.fix rs)=>t.all ||| jg (Op.fix rs).reads
 |_=>t.all
noncomputable def X7(i:Nat)(p:(Op×Nat)×Nat):Tm:=⟨i,(p.2:Nat),p.1.1.writes,p.1.2 ||| jg p.1.1.writes,some p.1.1⟩
noncomputable def jY(U:Un)(beg:List Nat)(q:Bk×Nat):List Tm :=
 ⟨q.2,-1,q.1.params,jg q.1.params ||| (beg[q.2]?).getD 0,none⟩::(q.1.ops.zip (jj U q.1 beg)).zipIdx.map (X7 q.2)
noncomputable def tms(U:Un)(beg:List Nat):List Tm:=⟨0,-1,U.entry,jg U.entry ||| (beg[0]?).getD 0,none⟩::U.blocks.zipIdx.flatMap (jY U beg)
noncomputable def yZ(N:Nat)(ms rs:List Nat)(mask:Nat):List Nat:=rs.foldl (fun ms r=>zD N ms r mask) ms
noncomputable def qA(N:Nat)(ms:List Nat)(t:Tm):List Nat:=yZ N ms t.given t.am
noncomputable def jA(U:Un)(beg:List Nat):List Nat:=(tms U beg).foldl (qA U.count) (List.replicate U.count 0)
theorem y7{N mask:Nat}:∀ {rs ms:List Nat},(yZ N ms rs mask).length=ms.length
 |[],ms=>rfl
 |r::rs,ms=>by
  show (yZ N (zD N ms r mask) rs mask).length=_
  rw [y7,Zs]
theorem xP{N:Nat}:∀ {ts:List Tm}{ms:List Nat},(ts.foldl (qA N) ms).length=ms.length
 |[],ms=>rfl
 |t::ts,ms=>by rw [List.foldl_cons,xP];exact y7
theorem xJ{n N a m mask r0:Nat}{rs ms:List Nat}{x y:String}{ρ:ja}{st:St}{Kn:ja->St->Prop}{Kr:MV->St->Prop}{f:Option MV->ja}
  (hρ:ρ=f (lk ρ x)) (hset:∀ u v,yf (f u) x v=f (some v)) (hx:∀ u,lk (f (some u)) x=some u) (ha:∀ u,lk (f u) "apart" = some (.ref a)) (hy:∀ u,lk (f u) y=some (.int (mask:Nat)))
  (hr:st r0=some (.list (jc rs))) (hrm:r0≠m) (h:ApAt st a m ms) (hl:ms.length=N) (hN:N<1000) (hrs:∀ r∈rs,r<N) (hm:mask<2 ^ N)
  (hk:∀ u st',Lx [m] st st'->ApAt st' a m (yZ N ms rs mask)->Kn (f u) st') :
  Jw [(r0,.list (jc rs))] (fun v ρ st K=>yv (.one x) v ρ st fun ρ'=>jG (Cl (n+2)) [.expr (.meth (.var "apart") "put" [(.var x),(.var y)])] ρ' st K Kr) (jc rs) ρ st Kn:=by
 refine lp (mv:=fun r:Nat=>MV.int (r:Int)) (fun pre ρ st'=>∀ G:ja->St->Prop,(Lx [m] st st'->ApAt st' a m (yZ N ms pre mask)->∀ u,G (f u) st')->G ρ st')
   (fun G k=>(congrArg (fun ρ=>G ρ _) hρ).mpr (k Lx.refl h _)) (fun pre ρ st' h=>h (fun _ t=>ji _ t) fun n0 _ _=>jh (lxg n0 hrm hr)) ?_ ?_
 ·rintro pre r post e ρ st1 I1 K' hK'
  apply I1;intro l1 h1 u
  have hr:r<N:=hrs r (by rw [e];simp)
  refine uM ?_
  rw [hset]
  refine jm (vX (qH (ya (ha _) ?_)))
  obtain ⟨d,h2,h3⟩:=h1
  refine ⟨Qi h2 rfl (by decide),JY (ya (hx _) (JY (ya (hy _) (Jc ?_))))⟩
  refine gz h2 h2 rfl (show "Apart"++"."++"put" = "Apart.put" by decide) ?_
  refine Xr (N:=N) ⟨d,h2,h3⟩ (by rw [y7];exact hl) hN hr hm fun st2 l2 h4=>⟨rfl,j6 ?_⟩
  refine hK' _ _ (fun _ k=>k (l1.trans l2) ?_ _)
  unfold yZ at h4 ⊢
  rw [List.foldl_append];exact h4
 ·rintro ρ st1 I1
  apply I1;intro l1 h1 u
  exact hk _ _ l1 h1
theorem oS{op:Op}{st:St}{Q:MV->Prop}(k:∀ s:String,(s = "fix"↔op.isFix=true)->Q (.str s)):xT op.mv (.int 0) st Q:=by
 cases op<;>exact gT (k _ (by simp [Op.isFix]))
theorem o4{x y:String}{st:St}{B:Bool->Prop}(k:B (decide (x=y))):yo .eq (.str x) (.str y) st B:=CmpR.eq (EqR.str k)
noncomputable def vC(op:Op):List Nat:=match op with
 |.fix rs=>(Op.fix rs).reads
 |_=>[]
theorem yM{op:Op}(h:op.isFix=true):vC op=op.reads:=by cases op<;>first | rfl | cases h
theorem yN{op:Op}(h:¬ op.isFix=true):vC op=[]:=by cases op<;>first | rfl | exact absurd rfl h
theorem jgf{op:Op}{i:Nat}{p:Int}{g:List Nat}{a:Nat}(h:op.isFix=true):Tm.am ⟨i,p,g,a,some op⟩=a ||| jg op.reads:=by cases op<;>first | rfl | cases h
theorem jgp{op:Op}{i:Nat}{p:Int}{g:List Nat}{a:Nat}(h:¬ op.isFix=true):Tm.am ⟨i,p,g,a,some op⟩=a:=by cases op<;>first | rfl | exact absurd rfl h
theorem VD{n N a m after i:Nat}{p:Int}{op:Op}{ms:List Nat}{st:St}{K:MV->St->Prop}(h:ApAt st a m ms)(hl:ms.length=N)(hN:N<1000)(ho:qm N op)(hm:after<2 ^ N)
  (hk:∀ st',Lx [m] st st'->ApAt st' a m (qA N ms ⟨i,p,op.writes,after ||| jg op.writes,some op⟩)->K .none st'):Cl (n+3) "put_op" [.ref a,op.mv,.int after] st K:=by
 refine jr (fn:=fn_put_op) (by decide) rfl rfl ?_
 unfold fn_put_op
 one_place
 obtain ⟨ho1,ho2,ho3,ho4⟩:=ho
 l_ints
 refine jC (Nat.lt_trans ho4 (by decide)) fun w st1 l1 n1 hw=>?_
 have h1:=h.le l1
 have hwm:w≠m:=fun e=>by obtain ⟨d,_,h2⟩:=h;rw [e,h2] at n1;cases n1
 have hmw:jg op.writes<2 ^ N:=j0 ho2
 l_ints
 refine jK hw (fun x hx=>Nat.lt_trans (ho2 x hx) (by w_up)) ?_
 l_ints
 refine oS fun s hs=>?_
 l_ints
 refine o4 (yQ (fun e=>?_) fun e=>?_)
 ·have hf:=hs.mp e
  l_ints
  refine yD (Nat.lt_trans ho3 (by decide)) (Nat.lt_trans ho4 (by decide)) fun q st2 l2 n2 hq=>?_
  l_ints
  refine jK hq (fun x hx=>Nat.lt_trans (ho1 x hx) (by w_up)) ?_
  have hw:=l2 _ _ hw
  have h2:=h1.le l2
  l_ints
  refine xJ (N:=N) (f:=fun u=>[("apart",some (.ref a)),("op",some op.mv),("after",some (.int (after:Nat))),("written",some (.ref w)),("around",some (.int (after ||| jg op.writes ||| jg op.reads:Nat))),("register",u)])
   rfl (fun _ _=>rfl) (fun _=>rfl) (fun _=>rfl) (fun _=>rfl) hw hwm h2 hl hN ho2 (Nat.or_lt_two_pow (Nat.or_lt_two_pow hm hmw) (j0 ho1)) fun u st3 l3 h3=>?_
  l_ints
  refine hk _ ((Lx.of (l1.trans l2)).trans l3) ?_
  unfold qA;rw [jgf hf];exact h3
 ·have hf:¬ op.isFix=true:=fun x=>e (hs.mpr x)
  l_ints
  refine xJ (N:=N) (f:=fun u=>[("apart",some (.ref a)),("op",some op.mv),("after",some (.int (after:Nat))),("written",some (.ref w)),("around",some (.int (after ||| jg op.writes:Nat))),("register",u)])
   rfl (fun _ _=>rfl) (fun _=>rfl) (fun _=>rfl) (fun _=>rfl) hw hwm h1 hl hN ho2 (Nat.or_lt_two_pow hm hmw) fun u st3 l3 h3=>?_
  l_ints
  refine hk _ ((Lx.of l1).trans l3) ?_
  unfold qA;rw [jgp hf];exact h3
theorem za{U:Un}{B:Bk}{beg:List Nat}(hB:UW U.count U.blocks.length B)(h:∀ m∈beg,m<2 ^ U.count):Jf U B beg<2 ^ U.count:=by
 refine Nat.lt_pow_two_of_testBit _ fun i hi=>?_
 cases z:(Jf U B beg).testBit i with
 |false=>rfl
 |true =>
  rcases liveEnd_bit.mp z with h' | ⟨c,_,h',_⟩
  ·have:=hB.fin i h';w_up
  ·cases e:beg[c]? with
   |none=>rw [e] at h';simp at h'
   |some m =>
    rw [e] at h'
    have:m<2 ^ i:=Nat.lt_of_lt_of_le (h m (List.mem_of_getElem? e)) (Nat.pow_le_pow_right (by decide) hi)
    rw [Option.getD_some,Nat.testBit_lt_two_pow this] at h'
    cases h'
theorem Vy{N m:Nat}(hm:m<2 ^ N):∀ {os:List Op},(∀ o∈os,qm N o)->os.foldr yh m<2 ^ N
 |[],_=>hm
 |o::os,h=>by
  rw [List.foldr_cons]
  exact Nat.or_lt_two_pow (jaw (Vy hm fun o' h'=>h o' (List.mem_cons_of_mem _ h'))) (j0 (h o (List.mem_cons_self ..)).1)
theorem xH{N m:Nat}(hm:m<2 ^ N):∀ {os:List Op},(∀ o∈os,qm N o)->∀ x∈Yg m os,x<2 ^ N
 |[],_,x,hx=>by simp [Yg] at hx
 |o::os,h,x,hx=>by
  have h':∀ o'∈os,qm N o':=fun o' h'=>h o' (List.mem_cons_of_mem _ h')
  rcases List.mem_cons.mp hx with rfl | hx
  ·exact Vy hm h'
  ·exact xH hm h' x hx
theorem x9{m:Nat}:∀ {os:List Op},(Yg m os).length=os.length
 |[]=>rfl
 |o::os=>by rw [Yb,List.length_cons,x9,List.length_cons]
theorem OF{U:Un}{beg:List Nat}(h:yg U beg)(i:Nat):(beg[i]?).getD 0<2 ^ U.count:=by
 cases z:beg[i]? with
 |none=>exact Nat.two_pow_pos _
 |some m=>exact h.lt m (List.mem_of_getElem? z)
theorem xo{α:Type}{pre:List α}{x:α}{k:Nat}:(pre++[x]).zipIdx k=pre.zipIdx k++[(x,k+pre.length)]:=by
 rw [List.zipIdx_append];rfl
theorem xW{n u:Nat}{U:Un}{st:St}{K:MV->St->Prop}(hu:UnAt st u U)(ho:jy U)
  (hk:∀ a m beg st',Le st st'->st a=none->st m=none->yg U beg->ApAt st' a m (jA U beg)->K (.ref a) st'):Cl (n+6) "apart_of" [.ref u] st K:=by
 refine jr (fn:=fn_apart_of) (by decide) rfl rfl ?_
 unfold fn_apart_of
 one_place
 obtain ⟨d,e,bl,qs,h1,h2,h3,h4,h5⟩:=hu.qs
 l_ints
 refine xA hu ho fun g beg st1 l1 n1 hg hbeg=>?_
 have hN:=ho.cnt
 have hql:=zp h4
 have h1:=l1 _ _ h1
 have h2:=l1 _ _ h2
 have h3:=l1 _ _ h3
 have h5:∀ q∈qs,BkAt st1 q.1 q.2.2 q.2.1:=fun q hq=>(h5 q hq).le l1
 have hu1:=hu.le l1
 l_ints
 refine Xf ho.cnt fun a m st2 l2 n2 n2m hap=>?_
 have h1':=l2 _ _ h1
 have h2':=l2 _ _ h2
 have hg2:=l2 _ _ hg
 obtain ⟨b0,hb0⟩:∃ x,beg[0]? = some x:=⟨_,List.getElem?_eq_getElem (by rw [hbeg.len];exact ho.pos)⟩
 l_ints
 refine jK h2' (fun x hx=>Nat.lt_trans (ho.ent x hx) (by w_up)) ?_
 l_ints
 refine zl hg2 (j9 hb0) ?_
 l_ints
 have hb0':(beg[0]?).getD 0=b0:=by rw [hb0];rfl
 have hb0l:b0<2 ^ U.count:=hbeg.lt b0 (List.mem_of_getElem? hb0)
 refine xJ (N:=U.count) (f:=fun x=>[("unit",some (.ref u)),("begins",some (.ref g)),("apart",some (.ref a)),("entry",some (.int (jg U.entry ||| b0:Nat))),("register",x),("block",none),("params",none),("op",none),("after",none)])
  rfl (fun _ _=>rfl) (fun _=>rfl) (fun _=>rfl) (fun _=>rfl) h2' (jw n2m h2) hap List.length_replicate ho.cnt ho.ent (Nat.or_lt_two_pow (j0 ho.ent) hb0l) fun x st3 l3 h6=>?_
 have l13:Le st1 st3:=l2.lx n2m l3
 have h1'':=l13 _ _ h1
 have h3'':=l13 _ _ h3
 l_ints
 refine lp (mv:=fun q:Nat×Bk×Nat=>MV.ref q.1) (fun pre ρ st'=>∀ G:ja->St->Prop,(Le st1 st'->ApAt st' a m (((pre.map Prod.snd).flatMap (jY U beg)).foldl (qA U.count) (yZ U.count (List.replicate U.count 0) U.entry (jg U.entry ||| b0)))->∀ x y z v w,G [("unit",some (.ref u)),("begins",some (.ref g)),("apart",some (.ref a)),("entry",some (.int (jg U.entry ||| b0:Nat))),("register",x),("block",y),("params",z),("op",v),("after",w)] st')->G ρ st')
   (fun _ k=>k l13 h6 _ _ _ _ _) (fun pre ρ st' h=>h (fun _ t=>ji _ t) fun n0 _ _ _ _ _ _=>jh (n0 _ _ h3)) ?_ ?_
 ·rintro pre q post eq ρ st4 I2 K' hK'
  apply I2;intro l4 hA x y z v w
  obtain ⟨b,B,i⟩:=q
  have hm:(b,B,i)∈qs:=by rw [eq];simp
  have hBi:=YX h4 hm
  have hBok:=ho.blk B (List.mem_of_getElem? hBi)
  have hilt:i<U.blocks.length:=(List.getElem?_eq_some_iff.mp hBi).1
  have hb1:=h5 _ hm
  obtain ⟨db,pb,ob,hb2,hb3,hb4⟩:=h5 _ hm
  simp only at hb1 hb2 hb3 hb4
  obtain ⟨bi,hbi⟩:∃ x,beg[i]? = some x:=⟨_,List.getElem?_eq_getElem (by rw [hbeg.len];exact hilt)⟩
  have hbi':(beg[i]?).getD 0=bi:=by rw [hbi];rfl
  have hbil:bi<2 ^ U.count:=hbeg.lt bi (List.mem_of_getElem? hbi)
  have hb2':=l4 _ _ hb2
  have hb3':=l4 _ _ hb3
  have hg4:=l4 _ _ (show st1 g=some (.list (jc beg)) from hg)
  have hlen:(((pre.map Prod.snd).flatMap (jY U beg)).foldl (qA U.count) (yZ U.count (List.replicate U.count 0) U.entry (jg U.entry ||| b0))).length=U.count:=by
   rw [xP,y7,List.length_replicate]
  generalize hcur:((pre.map Prod.snd).flatMap (jY U beg)).foldl (qA U.count) (yZ U.count (List.replicate U.count 0) U.entry (jg U.entry ||| b0))=cur at *
  l_ints
  refine jK hb3' (fun x hx=>Nat.lt_trans (hBok.par x hx) (by w_up)) ?_
  l_ints
  refine s_l hg4 (j9 hbi) ?_
  l_ints
  refine xJ (N:=U.count) (f:=fun x=>[("unit",some (.ref u)),("begins",some (.ref g)),("apart",some (.ref a)),("entry",some (.int (jg U.entry ||| b0:Nat))),("register",x),("block",some (.ref b)),("params",some (.int (jg B.params ||| bi:Nat))),("op",v),("after",w)])
   rfl (fun _ _=>rfl) (fun _=>rfl) (fun _=>rfl) (fun _=>rfl) hb3' (jw n2m hb3) hA hlen ho.cnt hBok.par (Nat.or_lt_two_pow (j0 hBok.par) hbil) fun x st5 l5 h7=>?_
  have l5:Le st1 st5:=l4.lx n2m l5
  have hb2'':=l5 _ _ hb2
  l_ints
  refine YC (hu1.le l5) ho (hb1.le l5) hBok (l5 _ _ hg) hbeg.len fun lb st6 l6 n6 h8=>?_
  have l56:=l5.trans l6
  refine vG (l56 _ _ hb4) (vG h8 ?_)
  rw [uv]
  have hlbm:lb≠m:=fun e=>by obtain ⟨_,_,q2⟩:=h7;rw [e,q2] at n6;cases n6
  refine lp (mv:=fun p:Op×Nat=>MV.tup [p.1.mv,.int (p.2:Nat)]) (fun pr ρ st'=>∀ G:ja->St->Prop,(Le st1 st'->st' lb=some (.list (jc (jj U B beg)))->ApAt st' a m ((pr.zipIdx.map (X7 i)).foldl (qA U.count) (yZ U.count cur B.params (jg B.params ||| bi)))->∀ x v w,G [("unit",some (.ref u)),("begins",some (.ref g)),("apart",some (.ref a)),("entry",some (.int (jg U.entry ||| b0:Nat))),("register",x),("block",some (.ref b)),("params",some (.int (jg B.params ||| bi:Nat))),("op",v),("after",w)] st')->G ρ st')
    (fun _ k=>k l56 h8 (h7.le l6) _ _ _) (fun pr ρ st' h=>h (fun _ t=>ji _ t) fun n0 n1 _ _ _ _=>Qj (n0 _ _ hb4) n1) ?_ ?_
  ·rintro pr ⟨o,mk⟩ ps ec ρ st7 I1 K1 hK1
   apply I1;intro l7 h9 h10 x v w
   have hmem:(o,mk)∈B.ops.zip (jj U B beg):=by rw [ec];simp
   have hoo:=(List.of_mem_zip hmem).1
   have hmm:=xH (za hBok hbeg.lt) hBok.ops mk (List.of_mem_zip hmem).2
   refine yO rfl ?_
   l_ints
   refine VD (N:=U.count) (i:=i) (p:=(pr.length:Nat)) h10 ?_ ho.cnt (hBok.ops o hoo) hmm fun st8 l8 h11=>⟨rfl,?_⟩
   ·rw [xP,y7,hlen]
   l_ints
   refine hK1 _ _ (fun _ k=>k (l7.lx n2m l8) (lxg l8 hlbm h9) ?_ _ _ _)
   rw [xo,List.map_append,List.foldl_append,Nat.zero_add]
   exact h11
  ·rintro ρ st7 I1
   apply I1;intro l7 h9 h10 x v w
   l_ints
   refine hK' _ _ (fun _ k=>k l7 ?_ _ _ _ _ _)
   rw [List.map_append,List.flatMap_append,List.foldl_append,hcur]
   simp only [List.map_cons,List.map_nil,List.flatMap_cons,List.flatMap_nil,List.append_nil]
   unfold jY
   rw [List.foldl_cons,hbi']
   exact h10
 ·rintro ρ st4 I2
  apply I2;intro l4 hA x y z v w
  l_ints
  refine hk a m beg st4 (l1.trans l4) (l1.back n2) (l1.back n2m) hbeg ?_
  rw [show qs.map Prod.snd=U.blocks.zipIdx from h4] at hA
  unfold jA tms
  rw [List.foldl_cons,hb0']
  exact hA
noncomputable def JR(ks:List Nat)(x:Nat):List Nat:=if x∈ks then ks else ks++[x]
noncomputable def Zb(ks:List Nat):List (Nat×Unit):=ks.map fun k=>(k,())
theorem UV{ks:List Nat}:(Zb ks).map (·.1)=ks:=by unfold Zb;rw [List.map_map];exact List.map_id ..
theorem uD:∀ {d:List (Nat×Unit)},d=Zb (d.map (·.1))
 |[]=>rfl
 | (x,())::d=>by rw [List.map_cons];show _=(x,())::Zb _;rw [← uD]
theorem OS{ks:List Nat}{x:Nat}:j5 (Zb ks) x ()=Zb (JR ks x):=by
 rw [uD (d:=j5 (Zb ks) x ()),Zy,UV];rfl
noncomputable def zn(U:Un):List Nat:=(gvs U).foldl JR []
set_option tactic.hygienic true in
theorem gV{M x:Nat}{ks:List Nat}(h:ks.Nodup/\∀ k∈ks,k<M)(hx:x<M):(JR ks x).Nodup/\∀ k∈JR ks x,k<M:=by
 unfold JR
 split
 ·exact h
 ·rename_i hn
  refine ⟨List.nodup_append.mpr ⟨h.1,by simp,fun a ha b hb e=>hn (by rw [← List.mem_singleton.mp hb,← e];exact ha)⟩,fun k hk=>?_⟩
  rcases List.mem_append.mp hk with hk | hk
  ·exact h.2 k hk
  ·rw [List.mem_singleton.mp hk];exact hx
theorem jT{M:Nat}:∀ {xs ks:List Nat},ks.Nodup/\(∀ k∈ks,k<M)->(∀ x∈xs,x<M)->(xs.foldl JR ks).Nodup/\∀ k∈xs.foldl JR ks,k<M
 |[],ks,h,_=>h
 |x::xs,ks,h,hx=>jT (xs:=xs) (gV h (hx x (List.mem_cons_self ..))) fun y hy=>hx y (List.mem_cons_of_mem _ hy)
theorem GL{U:Un}(ho:jy U):∀ x∈gvs U,x<U.count:=by
 intro x hx
 rcases List.mem_append.mp hx with hx | hx
 ·exact ho.ent x hx
 ·obtain ⟨B,hB,hx⟩:=List.mem_flatMap.mp hx
  rcases List.mem_append.mp hx with hx | hx
  ·exact (ho.blk B hB).par x hx
  ·obtain ⟨o,hm,hx⟩:=List.mem_flatMap.mp hx
   exact ((ho.blk B hB).ops o hm).2.1 x hx
theorem YH{U:Un}(ho:jy U):(zn U).Nodup/\∀ k∈zn U,k<U.count:=jT ⟨List.nodup_nil,by simp⟩ (GL ho)
noncomputable def dK(ks:List Nat):List (Int×MV):=dN (fun _:Unit=>.bool true) (Zb ks)
theorem jha{r x:Nat}{ks:List Nat}{st:St}{P:St->Prop}(h:st r=some (.idict (dK ks)))(l:ks.length<jb)(k:∀ st',Lx [r] st st'->st' r=some (.idict (dK (JR ks x)))->P st'):Jb (.ref r) (.int (x:Nat)) (.bool true) st P:=by
 refine vJ (f:=fun _:Unit=>.bool true) (v:=()) h (by unfold Zb;rw [List.length_map];exact l) fun st' l' h'=>k st' l' ?_
 rw [h',OS];rfl
theorem qz{C:jt}{M r r0:Nat}{xs ks:List Nat}{ρ:ja}{st:St}{Kn:ja->St->Prop}{Kr:MV->St->Prop}{f:Option MV->ja}
  (hρ:ρ=f (lk ρ "register")) (hset:∀ u v,yf (f u) "register" v=f (some v)) (hx:∀ u,lk (f (some u)) "register" = some u) (hf:∀ u,lk (f u) "found" = some (.ref r))
  (hr:st r0=some (.list (jc xs))) (hne:r0≠r) (h:st r=some (.idict (dK ks))) (hs:ks.Nodup/\∀ k∈ks,k<M) (hxs:∀ x∈xs,x<M) (hM:M<1000)
  (hk:∀ u st',Lx [r] st st'->st' r=some (.idict (dK (xs.foldl JR ks)))->Kn (f u) st') :
  Jw [(r0,.list (jc xs))] (fun v ρ st K=>yv (.one "register") v ρ st fun ρ'=>jG C [.assign (.sub (.var "found") (.var "register")) (.bool true)] ρ' st K Kr) (jc xs) ρ st Kn:=by
 refine lp (mv:=fun r:Nat=>MV.int (r:Int)) (fun pre ρ st'=>∀ G:ja->St->Prop,(Lx [r] st st'->st' r=some (.idict (dK (pre.foldl JR ks)))->∀ u,G (f u) st')->G ρ st')
   (fun G k=>(congrArg (fun ρ=>G ρ _) hρ).mpr (k Lx.refl h _)) (fun pre ρ st' h=>h (fun _ t=>ji _ t) fun n0 _ _=>jh (lxg n0 hne hr)) ?_ ?_
 ·rintro pre x post e ρ st1 I3 K' hK'
  apply I3;intro l1 h1 u
  refine uM ?_
  rw [hset]
  have hsm:=jT (xs:=pre) hs fun y hy=>hxs y (by rw [e];simp [hy])
  refine jm (yE (jaz (Ga (ya (hf _) (ya (hx _) (jha h1 (Nat.lt_of_le_of_lt (JF hsm) (Nat.lt_trans hM (by decide))) fun st2 l2 h2=>j6 ?_))))))
  refine hK' _ _ (fun _ k=>k (l1.trans l2) ?_ _)
  rw [List.foldl_append];exact h2
 ·rintro ρ st1 I3
  apply I3;intro l1 h1 u
  exact hk _ _ l1 h1
theorem y8{n u:Nat}{U:Un}{st:St}{K:MV->St->Prop}(hu:UnAt st u U)(ho:jy U)(hk:Ret st (.list (jc (zn U))) K):Cl (n+3) "given_order" [.ref u] st K:=by
 refine jr (fn:=fn_given_order) (by decide) rfl rfl ?_
 unfold fn_given_order
 one_place
 obtain ⟨d,e,bl,qs,h1,h2,h3,h4,h5⟩:=hu.qs
 have hN:=ho.cnt
 l_ints
 intro f st1 l1 n1 hf
 have h1':=l1 _ _ h1
 have h2':=l1 _ _ h2
 l_ints
 refine qz (ks:=[]) (M:=U.count) (f:=fun x=>[("unit",some (.ref u)),("found",some (.ref f)),("register",x),("block",none),("op",none)]) rfl (fun _ _=>rfl) (fun _=>rfl) (fun _=>rfl) h2' (jw n1 h2) hf ⟨List.nodup_nil,by simp⟩ ho.ent hN fun x st2 l2 h6=>?_
 have l2:Le st st2:=l1.lx n1 l2
 have h1':=l2 _ _ h1
 have h3':=l2 _ _ h3
 l_ints
 refine lp (mv:=fun q:Nat×Bk×Nat=>MV.ref q.1) (fun pre ρ st'=>∀ G:ja->St->Prop,(Le st st'->(st' f=some (.idict (dK (((pre.map fun q=>q.2.1).flatMap fun B=>B.params++B.ops.flatMap Op.writes).foldl JR (U.entry.foldl JR [])))))->∀ x y z,G [("unit",some (.ref u)),("found",some (.ref f)),("register",x),("block",y),("op",z)] st')->G ρ st')
   (fun _ k=>k l2 h6 _ _ _) (fun pre ρ st' h=>h (fun _ t=>ji _ t) fun n0 _ _ _ _=>jh (n0 _ _ h3)) ?_ ?_
 ·rintro pre q post eq ρ st4 I2 K' hK'
  apply I2;intro l4 hA x y z
  obtain ⟨b,B,i⟩:=q
  have hm:(b,B,i)∈qs:=by rw [eq];simp
  have hBi:=YX h4 hm
  have hBok:=ho.blk B (List.mem_of_getElem? hBi)
  obtain ⟨db,pb,ob,hb2,hb3,hb4⟩:=h5 _ hm
  simp only at hb2 hb3 hb4
  have hb2':=l4 _ _ hb2
  have hb3':=l4 _ _ hb3
  have hsm:(((pre.map fun q=>q.2.1).flatMap fun B=>B.params++B.ops.flatMap Op.writes).foldl JR (U.entry.foldl JR [])).Nodup/\∀ k∈((pre.map fun q=>q.2.1).flatMap fun B=>B.params++B.ops.flatMap Op.writes).foldl JR (U.entry.foldl JR []),k<U.count:=by
   refine jT (jT ⟨List.nodup_nil,by simp⟩ ho.ent) fun x hx=>GL ho x ?_
   refine List.mem_append_right _ ?_
   obtain ⟨B',hB',hx⟩:=List.mem_flatMap.mp hx
   obtain ⟨q',hq',rfl⟩:=List.mem_map.mp hB'
   exact List.mem_flatMap.mpr ⟨_,List.mem_of_getElem? (YX h4 (q:=q') (by rw [eq];simp [hq'])),hx⟩
  generalize hcur:((pre.map fun q=>q.2.1).flatMap fun B=>B.params++B.ops.flatMap Op.writes).foldl JR (U.entry.foldl JR [])=cur at *
  l_ints
  refine qz (M:=U.count) (f:=fun x=>[("unit",some (.ref u)),("found",some (.ref f)),("register",x),("block",some (.ref b)),("op",z)]) rfl (fun _ _=>rfl) (fun _=>rfl) (fun _=>rfl) hb3' (jw n1 hb3) hA hsm hBok.par hN fun x st5 l5 h7=>?_
  have l5:Le st st5:=l4.lx n1 l5
  have hb2':=l5 _ _ hb2
  have hb4':=l5 _ _ hb4
  have hsm2:=jT hsm hBok.par
  l_ints
  refine lp (mv:=Op.mv) (fun pr ρ st'=>∀ G:ja->St->Prop,(Le st st'->st' f=some (.idict (dK ((pr.flatMap Op.writes).foldl JR (B.params.foldl JR cur))))->∀ x z,G [("unit",some (.ref u)),("found",some (.ref f)),("register",x),("block",some (.ref b)),("op",z)] st')->G ρ st')
    (fun _ k=>k l5 h7 _ _) (fun pr ρ st' h=>h (fun _ t=>ji _ t) fun n0 _ _ _=>jh (n0 _ _ hb4)) ?_ ?_
  ·rintro pr o ps ec ρ st7 I1 K1 hK1
   apply I1;intro l7 h9 x z
   have hoo:o∈B.ops:=by rw [ec];simp
   have hok:=hBok.ops o hoo
   l_ints
   refine jC (Nat.lt_trans hok.2.2.2 (by decide)) fun w st8 l8 n8 hw=>?_
   have hwf:=jw n8 h9
   have h9':=l8 _ _ h9
   refine j2 hw ?_
   have hsm3:=jT (xs:=pr.flatMap Op.writes) hsm2 fun x hx=>by
    obtain ⟨o',ho',hx⟩:=List.mem_flatMap.mp hx
    exact (hBok.ops o' (by rw [ec];simp [ho'])).2.1 x hx
   refine qz (M:=U.count) (f:=fun x=>[("unit",some (.ref u)),("found",some (.ref f)),("register",x),("block",some (.ref b)),("op",some o.mv)]) rfl (fun _ _=>rfl) (fun _=>rfl) (fun _=>rfl) hw hwf.symm h9' hsm3 hok.2.1 hN fun x st9 l9 h10=>?_
   l_ints
   refine hK1 _ _ (fun _ k=>k ((l7.trans l8).lx n1 l9) ?_ _ _)
   rw [yx,List.foldl_append];exact h10
  ·rintro ρ st7 I1
   apply I1;intro l7 h9 x z
   l_ints
   refine hK' _ _ (fun _ k=>k l7 ?_ _ _ _)
   rw [List.map_append,List.flatMap_append,List.foldl_append,hcur]
   simp only [List.map_cons,List.map_nil,List.flatMap_cons,List.flatMap_nil,List.append_nil]
   rw [List.foldl_append]
   exact h9
 ·rintro ρ st4 I2
  apply I2;intro l4 hA x y z
  l_ints
  refine ⟨_,_,rfl,hA,al fun o st5 l5 n5 h6=>?_⟩
  refine hk _ _ (l4.trans l5) (l4.back n5) ?_
  rw [h6]
  have e1:(qs.map fun q=>q.2.1)=U.blocks:=by
   have:=congrArg (List.map Prod.fst) h4
   rw [List.map_map] at this
   have e2:U.blocks.zipIdx.map Prod.fst=U.blocks:=by rw [List.zipIdx_map_fst]
   rw [e2] at this;exact this
  rw [e1]
  unfold zn gvs
  rw [List.foldl_append]
  unfold dK dN
  rw [List.map_map]
  unfold Zb
  rw [List.map_map]
  rfl
noncomputable def yX(f:List (List Nat))(p:Nat×Nat):List (List Nat) :=
 (f.set p.1 ((f[p.1]?).getD []++[p.2])).set p.2 (((f.set p.1 ((f[p.1]?).getD []++[p.2]))[p.2]?).getD []++[p.1])
noncomputable def jN(U:Un)(f:List (List Nat))(B:Bk):List (List Nat):=match B.fin with
 |.goto c ss=>(ss.zip (U.par c)).foldl yX f
 |_=>f
noncomputable def jU(U:Un):List (List Nat):=U.blocks.foldl (jN U) ((List.range U.count).map fun _=>[])
def Jj(M:Nat)(f:List (List Nat)):Prop:=∀ xs∈f,xs.length≤M
theorem Qc{p:Nat×Nat}{f:List (List Nat)}:(yX f p).length=f.length:=by unfold yX;rw [List.length_set,List.length_set]
theorem YO:∀ {ps:List (Nat×Nat)}{f:List (List Nat)},(ps.foldl yX f).length=f.length
 |[],f=>rfl
 |p::ps,f=>by rw [List.foldl_cons,YO,Qc]
theorem QQ{U:Un}{B:Bk}{f:List (List Nat)}:(jN U f B).length=f.length:=by
 unfold jN;split
 ·exact YO
 ·rfl
theorem Jz{U:Un}:∀ {Bs:List Bk}{f:List (List Nat)},(Bs.foldl (jN U) f).length=f.length
 |[],f=>rfl
 |p::ps,f=>by rw [List.foldl_cons,Jz,QQ]
theorem qC{M i x:Nat}{f:List (List Nat)}(h:Jj M f):Jj (M+1) (f.set i ((f[i]?).getD []++[x])):=by
 intro xs hx
 rcases List.mem_or_eq_of_mem_set hx with hx | rfl
 ·have:=h xs hx;w_up
 ·rw [List.length_append,List.length_singleton]
  cases z:f[i]? with
  |none=>simp
  |some ys=>have:=h ys (List.mem_of_getElem? z);simpa using this
theorem QW{M:Nat}{p:Nat×Nat}{f:List (List Nat)}(h:Jj M f):Jj (M+2) (yX f p):=qC (qC h)
theorem xg:∀ {ps:List (Nat×Nat)}{M:Nat}{f:List (List Nat)},Jj M f->Jj (M+2*ps.length) (ps.foldl yX f)
 |[],M,f,h=>h
 |p::ps,M,f,h=>by
  have:=xg (ps:=ps) (QW (p:=p) h)
  rw [List.length_cons];rwa [show M+2*(ps.length+1)=M+2+2*ps.length by w_up]
theorem yL{M M':Nat}{f:List (List Nat)}(h:Jj M f)(l:M≤M'):Jj M' f:=fun xs hx=>Nat.le_trans (h xs hx) l
theorem uu{U:Un}(ho:jy U)(c:Nat):(U.par c).length<1000:=by
 unfold Un.par
 cases z:U.blocks[c]? with
 |none=>simp
 |some B=>exact (ho.blk B (List.mem_of_getElem? z)).parl
theorem jet{U:Un}(ho:jy U)(c:Nat):∀ r∈U.par c,r<U.count:=by
 unfold Un.par
 cases z:U.blocks[c]? with
 |none=>simp
 |some B=>exact (ho.blk B (List.mem_of_getElem? z)).par
set_option tactic.hygienic true in
theorem gD{U:Un}{M:Nat}{B:Bk}{f:List (List Nat)}(ho:jy U)(h:Jj M f):Jj (M+2000) (jN U f B):=by
 unfold jN;split
 ·refine yL (xg h) ?_
  rename_i c ss _
  have:=uu ho c
  have:(ss.zip (U.par c)).length≤(U.par c).length:=by rw [List.length_zip];w_up
  w_up
 ·exact yL h (by w_up)
theorem xp{U:Un}(ho:jy U):∀ {Bs:List Bk}{M:Nat}{f:List (List Nat)},Jj M f->Jj (M+2000*Bs.length) (Bs.foldl (jN U) f)
 |[],M,f,h=>h
 |p::ps,M,f,h=>by
  have:=xp ho (Bs:=ps) (gD (B:=p) ho h)
  rw [List.length_cons];rwa [show M+2000*(ps.length+1)=M+2000+2000*ps.length by w_up]
theorem q8{N:Nat}:Jj 0 ((List.range N).map fun _=>[]):=fun xs hx=>by
 obtain ⟨_,_,rfl⟩:=List.mem_map.mp hx;exact Nat.le_refl _
theorem Zk{n i x:Nat}{st₀ st:St}{fr:Nat}{rs:List Nat}{xss:List (List Nat)}{v w:String}{fv:String}{ρ:ja}{K:ja->St->Prop}{Kr:MV->St->Prop}(h:LsAt st₀ st fr rs xss)(hi:i<xss.length)(hl:Jj 1000000 xss)
  (hf:lk ρ fv=some (.ref fr)) (hv:lk ρ v=some (.int (i:Nat))) (hw:lk ρ w=some (.int (x:Nat)))
  (hk:∀ st',(∀ q,q∉rs->∀ o,st q=some o->st' q=some o)->LsAt st₀ st' fr rs (xss.set i ((xss[i]?).getD []++[x]))->(∀ l,Le l st->(∀ r∈rs,l r=none)->Le l st')->K ρ st') :
  wpS (Cl n) (.expr (.meth (.sub (.var fv) (.var v)) "append" [.var w])) ρ st K Kr:=by
 obtain ⟨r,xs,hr,hxs,hrx⟩:=h.get hi
 refine vX (qH (xG (ya hf (ya hv (s_l (v:=.ref r) h.main (Yy hr) ⟨jJ hrx,JY (ya hw (Jc ?_))⟩)))))
 have hb:=hl xs (List.mem_of_getElem? hxs)
 refine jI hrx hrx (by rw [je];unfold jb;w_up) fun st' l' h'=>⟨rfl,?_⟩
 refine hk st' (fun q hq o e=>lxg l' (fun e'=>hq (by rw [e'];exact List.mem_of_getElem? hr)) e) ?_ fun l hl hn=>hl.lx (hn r (List.mem_of_getElem? hr)) l'
 rw [hxs]
 exact h.set hr l' (by rw [Option.getD_some,← js];exact h')
set_option tactic.hygienic true in
theorem Zj{n u fr:Nat}{U:Un}{blk fv:String}{E:ME}{d e bl:Nat}{qs:List (Nat×Bk×Nat)}{rs:List Nat}{st₀ st:St}{ρ:ja}{Kn:ja->St->Prop}{Kr:MV->St->Prop}{f:Option MV->Option MV->Option MV->ja}
  (ho:jy U) (hE:∀ ρ st (K:MV->St->Prop),K (.str "goto") st->wpE (Cl n) E ρ st K)
  (h1:st₀ u=some (.inst "LowUnit" d [("number",.int 0),("title",.str "u"),("is_continuation",.bool false),("entry",.ref e),("needed",.int 0),("has_rest",.bool false),("free",.int 0),("count",.int (U.count:Nat)),("blocks",.ref bl)]))
  (h3:st₀ bl=some (.list (qs.map fun q=>.ref q.1))) (h4:qs.map (·.2)=U.blocks.zipIdx) (h5:∀ q∈qs,BkAt st₀ q.1 q.2.2 q.2.1)
  (hρ:ρ=f (lk ρ blk) (lk ρ "source") (lk ρ "target")) (s1:∀ x y z v,yf (f x y z) blk v=f (some v) y z) (s2:∀ x y z v,yf (f x y z) "source" v=f x (some v) z) (s3:∀ x y z v,yf (f x y z) "target" v=f x y (some v))
  (g1:∀ x y z,lk (f x y z) blk=x) (g2:∀ x y z,lk (f x y z) "source" = y) (g3:∀ x y z,lk (f x y z) "target" = z) (g4:∀ x y z,lk (f x y z) fv=some (.ref fr)) (g5:∀ x y z,lk (f x y z) "unit" = some (.ref u))
  (hl:Le st₀ st) (hL:LsAt st₀ st fr rs ((List.range U.count).map fun _=>[]))
  (hk:∀ x y z st',Le st₀ st'->Lx rs st st'->LsAt st₀ st' fr rs (jU U)->Kn (f x y z) st') :
  Jw [(bl,.list (qs.map fun q=>.ref q.1))] (fun v ρ st K=>yv (.one blk) v ρ st fun ρ'=>jG (Cl n) [
   .ife (.cmp .eq (.sub (.attr (.var blk) "end") (.int 0)) E) [
    .fore (.many ["source","target"]) (.zip (.sub (.attr (.var blk) "end") (.int 2)) (.attr (.sub (.attr (.var "unit") "blocks") (.sub (.attr (.var blk) "end") (.int 1))) "params")) [
     .expr (.meth (.sub (.var fv) (.var "source")) "append" [(.var "target")]),
     .expr (.meth (.sub (.var fv) (.var "target")) "append" [(.var "source")])]] []] ρ' st K Kr) (qs.map fun q=>.ref q.1) ρ st Kn:=by
 refine lp (mv:=fun q:Nat×Bk×Nat=>MV.ref q.1) (fun pre ρ st'=>∀ G:ja->St->Prop,(Le st₀ st'->Lx rs st st'->(LsAt st₀ st' fr rs ((pre.map fun q:Nat×Bk×Nat=>q.2.1).foldl (jN U) ((List.range U.count).map fun _=>[])))->∀ x y z,G (f x y z) st')->G ρ st')
   (fun G k=>(congrArg (fun ρ=>G ρ _) hρ).mpr (k hl Lx.refl hL _ _ _)) (fun pre ρ st' h=>h (fun _ t=>ji _ t) fun n0 _ _ _ _ _=>jh (n0 _ _ h3)) ?_ ?_
 ·rintro pre q post eq ρ st1 I2 K' hK'
  apply I2;intro l1 kx1 hL1 x y z
  obtain ⟨b,B,i⟩:=q
  have hm:(b,B,i)∈qs:=by rw [eq];simp
  have hBi:=YX h4 hm
  have hBok:=ho.blk B (List.mem_of_getElem? hBi)
  obtain ⟨db,pb,ob,hb2,hb3,hb4⟩:=h5 _ hm
  simp only at hb2 hb3 hb4
  have hb2':=l1 _ _ hb2
  have hpl:pre.length≤100:=by
   have:=congrArg List.length eq
   rw [zp h4,List.length_append,List.length_cons] at this
   have:=ho.nb;w_up
  have hLen:Jj 200000 ((pre.map fun q:Nat×Bk×Nat=>q.2.1).foldl (jN U) ((List.range U.count).map fun _=>[])):=by
   refine yL (xp ho q8) ?_
   rw [List.length_map];w_up
  have hlen:((pre.map fun q:Nat×Bk×Nat=>q.2.1).foldl (jN U) ((List.range U.count).map fun _=>[])).length=U.count:=by
   rw [Jz,List.length_map,List.length_range]
  have hfin:(pre++[(b,B,i)]).map (fun q=>q.2.1)=pre.map (fun q=>q.2.1)++[B]:=by rw [List.map_append];rfl
  refine uM ?_
  rw [s1]
  refine jm (ZL (Xp (xG (xz (ya (g1 _ _ _) (ga hb2' rfl (zH ?_)))))))
  cases hfn:B.fin with
  |goto c ss =>
   refine gT (hE _ _ _ (jfL (X1 ?_)))
   have hc:c<U.blocks.length:=hBok.next c (by rw [hfn];simp [En.next])
   obtain ⟨bc,Bc,hBc,hqc⟩:=Z1 h4 hc
   obtain ⟨dc,pc,oc,hc2,hc3,hc4⟩:=h5 _ (List.mem_of_getElem? hqc)
   simp only at hc2 hc3 hc4
   have hpar:U.par c=Bc.params:=by unfold Un.par;rw [hBc];rfl
   have h1':=l1 _ _ h1
   have h3':=l1 _ _ h3
   have hc2':=l1 _ _ hc2
   have hc3':=l1 _ _ hc3
   rw [hfn] at hb2'
   refine jm (qB (gm (xG (xz (ya (g1 _ _ _) (ga hb2' rfl (zH (jfX (xz (xG (xz (ya (g5 _ _ _) (ga h1' rfl (xG (xz (ya (g1 _ _ _) (ga hb2' rfl (zH (jgO ?_)))))))))))))))))))
   refine s_l (v:=.ref bc) h3' (by rw [List.getElem?_map,hqc];rfl) (ga hc2' rfl (gY (vG hc3' ?_)))
   rw [uv,← hpar]
   refine lp (mv:=fun p:Nat×Nat=>MV.tup [.int (p.1:Nat),.int (p.2:Nat)]) (fun pr ρ st'=>∀ G:ja->St->Prop,(Le st₀ st'->Lx rs st st'->(LsAt st₀ st' fr rs (pr.foldl yX ((pre.map fun q:Nat×Bk×Nat=>q.2.1).foldl (jN U) ((List.range U.count).map fun _=>[]))))->∀ y z,G (f (some (.ref b)) y z) st')->G ρ st')
     (fun _ k=>k l1 kx1 hL1 _ _) (fun pr ρ st' h=>h (fun _ t=>ji _ t) fun n0 _ _ _ _=>jh (by rw [hpar];exact n0 _ _ hc3)) ?_ ?_
   ·rintro pr ⟨s,t⟩ ps ec ρ st2 I1 K1 hK1
    apply I1;intro l2 kx2 hL2 y z
    have hmem:(s,t)∈ss.zip (U.par c):=by rw [ec];simp
    have hs:s<U.count:=hBok.fin s (by rw [hfn];exact (List.of_mem_zip hmem).1)
    have ht:t<U.count:=jet ho c t (List.of_mem_zip hmem).2
    have hprl:pr.length≤1000:=by
     have:=congrArg List.length ec
     rw [List.length_zip,List.length_append] at this
     have:=uu ho c;w_up
    have hLen2:Jj 202000 (pr.foldl yX ((pre.map fun q:Nat×Bk×Nat=>q.2.1).foldl (jN U) ((List.range U.count).map fun _=>[]))):=yL (xg hLen) (by w_up)
    have hlen2:(pr.foldl yX ((pre.map fun q:Nat×Bk×Nat=>q.2.1).foldl (jN U) ((List.range U.count).map fun _=>[]))).length=U.count:=by rw [YO,hlen]
    refine yO rfl ?_
    show jG _ _ (yf (yf (f (some (.ref b)) y z) "source" _) "target" _) _ _ _
    rw [s2,s3]
    refine jm (Zk hL2 (i:=s) (x:=t) (by rw [hlen2];exact hs) (yL hLen2 (by w_up)) (g4 _ _ _) (g2 _ _ _) (g3 _ _ _) fun st3 k3 hL3 hle3=>?_)
    refine jm (Zk hL3 (i:=t) (x:=s) (by rw [List.length_set,hlen2];exact ht) (yL (qC hLen2) (by w_up)) (g4 _ _ _) (g3 _ _ _) (g2 _ _ _) fun st4 k4 hL4 hle4=>j6 ?_)
    refine hK1 _ _ (fun _ k=>k (hle4 _ (hle3 _ l2 hL2.new) hL2.new) ((kx2.trans (fun a o n e=>k3 a n o e)).trans (fun a o n e=>k4 a n o e)) ?_ _ _)
    rw [List.foldl_append];exact hL4
   ·rintro ρ st2 I1
    apply I1;intro l2 kx2 hL2 y z
    refine j6 (j6 (hK' _ _ (fun _ k=>k l2 kx2 ?_ _ _ _)))
    rw [hfin,List.foldl_append]
    show LsAt _ _ _ _ (jN U _ B)
    unfold jN
    rw [hfn];exact hL2
  |branch a c d =>
   refine gT (hE _ _ _ (jbB (by decide) (Jn (j6 (j6 (hK' _ _ (fun _ k=>k l1 kx1 ?_ _ _ _)))))))
   rw [hfin,List.foldl_append]
   show LsAt _ _ _ _ (jN U _ B)
   unfold jN
   rw [hfn];exact hL1
  |call a c d =>
   refine gT (hE _ _ _ (jbB (by decide) (Jn (j6 (j6 (hK' _ _ (fun _ k=>k l1 kx1 ?_ _ _ _)))))))
   rw [hfin,List.foldl_append]
   show LsAt _ _ _ _ (jN U _ B)
   unfold jN
   rw [hfn];exact hL1
  |give a c =>
   refine gT (hE _ _ _ (jbB (by decide) (Jn (j6 (j6 (hK' _ _ (fun _ k=>k l1 kx1 ?_ _ _ _)))))))
   rw [hfin,List.foldl_append]
   show LsAt _ _ _ _ (jN U _ B)
   unfold jN
   rw [hfn];exact hL1
 ·rintro ρ st1 I2
  apply I2;intro l1 kx1 hL1 x y z
  refine hk _ _ _ _ l1 kx1 ?_
  have e1:(qs.map fun q=>q.2.1)=U.blocks:=by
   have:=congrArg (List.map Prod.fst) h4
   rw [List.map_map] at this
   have e2:U.blocks.zipIdx.map Prod.fst=U.blocks:=by rw [List.zipIdx_map_fst]
   rw [e2] at this;exact this
  rw [e1] at hL1
  exact hL1
theorem vK{n u:Nat}{U:Un}{st:St}{K:MV->St->Prop}(hu:UnAt st u U)(ho:jy U)
  (hk:∀ f rs st',Le st st'->st f=none->LsAt st st' f rs (jU U)->K (.ref f) st'):Cl (n+1) "wishes_of" [.ref u] st K:=by
 refine jr (fn:=fn_wishes_of) (by decide) rfl rfl ?_
 unfold fn_wishes_of
 one_place
 obtain ⟨d,e,bl,qs,h1,h2,h3,h4,h5⟩:=hu.qs
 have hN:=ho.cnt
 l_ints
 refine ⟨_,rfl,⟨Int.natCast_nonneg _,Int.ofNat_lt.mpr (Nat.lt_trans hN (by decide))⟩,?_⟩
 rw [Int.toNat_natCast]
 refine vN jH (by rw [List.length_range];exact Nat.lt_trans hN (by decide)) fun fr rs st1 l1 n1 hL=>?_
 have h1':=l1 _ _ h1
 have h3':=l1 _ _ h3
 l_ints
 refine Zj (f:=fun x y z=>[("unit",some (.ref u)),("found",some (.ref fr)),("block",x),("source",y),("target",z)]) ho (fun ρ st K k=>OY k) h1 h3 h4 h5 rfl (fun _ _ _ _=>rfl) (fun _ _ _ _=>rfl) (fun _ _ _ _=>rfl)
  (fun _ _ _=>rfl) (fun _ _ _=>rfl) (fun _ _ _=>rfl) (fun _ _ _=>rfl) (fun _ _ _=>rfl) l1 hL fun x y z st2 l2 _ hL2=>?_
 l_ints
 exact hk fr rs st2 l2 n1 hL2
noncomputable abbrev PD:=List (Nat×Nat)
noncomputable def dP(d:PD):List (Int×MV):=dN (fun p:Nat=>.int (p:Nat)) d
noncomputable def jV(N:Nat)(ms:List Nat)(d:PD)(r:Nat):Nat:=(jn N ((ms[r]?).getD 0)).foldl (fun m o=>match lkN d o with | some p=>m ||| 2 ^ p | none=>m) 0
noncomputable def Jh(N m:Nat):Nat:=((List.range (N+1)).find? fun i=>!m.testBit i).getD 0
noncomputable def Jr(N:Nat)(ms:List Nat)(d:PD)(ws:List (List Nat))(r:Nat):Nat :=
 (((ws[r]?).getD []).findSome? fun o=>match lkN d o with | some p=>if (jV N ms d r).testBit p then none else some p | none=>none).getD (Jh N (jV N ms d r))
theorem VU{N m:Nat}:(jn N m).length≤N:=Nat.le_trans (List.length_filter_le ..) (by rw [List.length_range];exact Nat.le_refl _)
theorem qf{n a m r N f:Nat}{ms:List Nat}{d:PD}{st:St}{K:MV->St->Prop}(h:ApAt st a m ms)(hl:ms.length=N)(hN:N<1000)(hms:∀ x∈ms,x<2 ^ N)(hr:r<N)
  (hf:st f=some (.idict (dP d))) (hd:∀ k p,lkN d k=some p->p<4096) (hk:∀ st',Le st st'->K (.int (jV N ms d r:Nat)) st'):Cl (n+2) "taken_places" [.ref a,.ref f,.int r] st K:=by
 refine jr (fn:=fn_taken_places) (by decide) rfl rfl ?_
 unfold fn_taken_places
 one_place
 obtain ⟨da,h1,h2⟩:=h
 obtain ⟨x,hx⟩:∃ x,ms[r]? = some x:=⟨_,List.getElem?_eq_getElem (by w_up)⟩
 have hx':(ms[r]?).getD 0=x:=by rw [hx];rfl
 l_ints
 refine s_l h2 (j9 hx) ?_
 l_ints
 refine YS (hms x (List.mem_of_getElem? hx)) (by w_up) fun b st1 l1 n1 hb=>?_
 refine j2 hb ?_
 refine lp (mv:=fun r:Nat=>MV.int (r:Int)) (fun pre ρ st'=>∀ G:ja->St->Prop,(∀ y,G [("apart",some (.ref a)),("of",some (.ref f)),("register",some (.int (r:Nat))),("found",some (.int (pre.foldl (fun m o=>match lkN d o with | some p=>m ||| 2 ^ p | none=>m) 0:Nat))),("other",y)] st1)->G ρ st')
   (fun _ k=>k _) (fun pre ρ st' h=>h (fun _ t=>ji _ t) fun _=>jh (hb)) ?_ ?_
 ·rintro pre o post e ρ st' I2 K' hK'
  apply I2;intro y
  have hf:=l1 _ _ hf
  l_ints
  refine OE hf (JV (fun hs=>?_) fun hs=>?_)
  ·obtain ⟨p,hp⟩:=Option.isSome_iff_exists.mp hs
   l_ints
   refine s_d (Or.inl hf) hp ?_
   refine uJ (hd _ _ hp) ?_
   l_ints
   refine hK' _ _ (fun G k=>(congrArg (fun ρ=>G ρ _) ?_).mpr (k (some (.int o))))
   rw [List.foldl_append,List.foldl_cons,List.foldl_nil,hp];rfl
  ·have hp:lkN d o=none:=Option.not_isSome_iff_eq_none.mp (by rw [hs];decide)
   l_ints
   refine hK' _ _ (fun G k=>(congrArg (fun ρ=>G ρ _) ?_).mpr (k (some (.int o))))
   rw [List.foldl_append,List.foldl_cons,List.foldl_nil,hp];rfl
 ·rintro ρ st' I2
  apply I2;intro y
  l_ints
  have z:=hk _ l1
  unfold jV at z
  rw [hx'] at z;exact z
theorem GK{N m p:Nat}(hp:p≤N)(ht:∀ i,i<p->m.testBit i=true)(hf:m.testBit p=false):Jh N m=p:=by
 unfold Jh
 rw [List.find?_range_eq_some (i:=p) |>.mpr ⟨by simp [hf],List.mem_range.mpr (by w_up),fun j hj=>by simp [ht j hj]⟩]
 rfl
theorem qD{n m N:Nat}{st:St}{K:MV->St->Prop}(hN:N<1000)(hm:∃ p,p≤N/\m.testBit p=false)(hk:K (.int (Jh N m:Nat)) st):Cl (n+2) "lowest_free" [.int m] st K:=by
 refine jr (fn:=fn_lowest_free) (by decide) rfl rfl ?_
 unfold fn_lowest_free
 one_place
 obtain ⟨p,hp,hpf⟩:=hm
 l_ints
 refine jaG (fun a ρ st'=>a≤p/\(∀ i,i<a->m.testBit i=true)/\st'=st/\ρ=[("mask",some (.int m)),("at",some (.int (a:Nat)))]) (fun a=>p - a) (s:=0) ⟨by w_up,fun i h=>by w_up,rfl,rfl⟩ ?_
 rintro a ρ st' ⟨ha,ht,rfl,rfl⟩ Kw hKw
 l_ints
 refine zu (by w_up) (JV (fun hb=>?_) fun hb=>?_)
 ·have hap:a<p:=Nat.lt_of_le_of_ne ha fun e=>by rw [e,hpf] at hb;cases hb
  l_ints
  refine hKw (a+1) _ _ (Nat.sub_lt_sub_left (by w_up) (Nat.lt_succ_self _)) ⟨by w_up,fun i hi=>?_,rfl,rfl⟩
  by_cases e:i=a
  ·rw [e];exact hb
  ·exact ht i (by w_up)
 ·l_ints
  rw [GK (by w_up) ht hb] at hk;exact hk
theorem takenOf_bit{N r p:Nat}{ms:List Nat}{d:PD}:(jV N ms d r).testBit p↔∃ o,o<N/\((ms[r]?).getD 0).testBit o/\lkN d o=some p:=by
 have key:∀ (xs:List Nat) (m:Nat),(xs.foldl (fun m o=>match lkN d o with | some p=>m ||| 2 ^ p | none=>m) m).testBit p↔m.testBit p\/∃ o∈xs,lkN d o=some p:=by
  intro xs
  induction xs with
  |nil=>intro m;simp
  |cons x xs ih =>
   intro m
   rw [List.foldl_cons,ih]
   simp only [List.mem_cons,exists_eq_or_imp]
   cases z:lkN d x with
   |none=>simp
   |some q =>
    simp only [Nat.testBit_or,Bool.or_eq_true,vz,decide_eq_true_eq,Option.some.injEq]
    exact or_assoc
 unfold jV
 rw [key]
 simp only [Nat.zero_testBit,Bool.false_eq_true,false_or,jn,List.mem_filter,List.mem_range]
 exact ⟨fun ⟨o,⟨a,b⟩,c⟩=>⟨o,a,b,c⟩,fun ⟨o,a,b,c⟩=>⟨o,⟨a,b⟩,c⟩⟩
theorem Xj{N r:Nat}{ms:List Nat}{d:PD}:∃ p,p≤N/\(jV N ms d r).testBit p=false:=by
 refine Classical.byContradiction fun hn=>?_
 have hall:∀ p,p≤N->∃ o,o<N/\lkN d o=some p:=fun p hp=>by
  cases z:(jV N ms d r).testBit p with
  |false=>exact absurd ⟨p,hp,z⟩ hn
  |true=>obtain ⟨o,a,_,c⟩:=takenOf_bit.mp z;exact ⟨o,a,c⟩
 have h1:(List.range (N+1)) ⊆ (List.range N).filterMap (lkN d):=fun p hp=>by
  obtain ⟨o,a,c⟩:=hall p (by have:=List.mem_range.mp hp;w_up)
  exact List.mem_filterMap.mpr ⟨o,List.mem_range.mpr a,c⟩
 have h2:=List.Nodup.length_le_of_subset List.nodup_range h1
 have h3:=List.length_filterMap_le (lkN d) (List.range N)
 rw [List.length_range] at h2 h3
 w_up
theorem Gq{N m:Nat}:Jh N m≤N:=by
 unfold Jh
 cases z:(List.range (N+1)).find? fun i=>!m.testBit i with
 |none=>exact Nat.zero_le _
 |some p=>have:=List.mem_range.mp (List.mem_of_find?_eq_some z);simp only [Option.getD_some];w_up
theorem UQ{N r:Nat}{ms:List Nat}{d:PD}{ws:List (List Nat)}(hd:∀ k p,lkN d k=some p->p≤N):Jr N ms d ws r≤N:=by
 unfold Jr
 cases z:((ws[r]?).getD []).findSome? fun o=>match lkN d o with | some p=>if (jV N ms d r).testBit p then none else some p | none=>none with
 |none=>exact Gq
 |some p =>
  obtain ⟨o,_,ho⟩:=List.exists_of_findSome?_eq_some z
  cases y:lkN d o with
  |none=>rw [y] at ho;cases ho
  |some q =>
   rw [y] at ho
   simp only at ho
   split at ho
   ·cases ho
   ·cases ho;exact hd _ _ y
theorem zX{n a m r N f w:Nat}{ms rs:List Nat}{ws:List (List Nat)}{d:PD}{st₀ st:St}{K:MV->St->Prop}(h:ApAt st a m ms)(hl:ms.length=N)(hN:N<1000)(hms:∀ x∈ms,x<2 ^ N)(hr:r<N)
  (hf:st f=some (.idict (dP d))) (hd:∀ k p,lkN d k=some p->p≤N) (hw:LsAt st₀ st w rs ws) (hwl:ws.length=N)
  (hk:∀ st',Le st st'->K (.int (Jr N ms d ws r:Nat)) st'):Cl (n+3) "chosen_place" [.ref a,.ref f,.ref w,.int r] st K:=by
 refine jr (fn:=fn_chosen_place) (by decide) rfl rfl ?_
 unfold fn_chosen_place
 one_place
 l_ints
 refine qf h hl hN hms hr hf (fun k p e=>Nat.lt_of_le_of_lt (hd k p e) (by w_up)) fun st1 l1=>?_
 have hw1:=hw.le l1
 have hf:=l1 _ _ hf
 obtain ⟨wr,wx,hwr,hwx,hwrx⟩:=hw1.get (i:=r) (by w_up)
 have hwx':(ws[r]?).getD []=wx:=by rw [hwx];rfl
 l_ints
 refine s_l (v:=.ref wr) hw1.main (Yy hwr) ?_
 refine j2 hwrx ?_
 refine lp (mv:=fun r:Nat=>MV.int (r:Int)) (fun pre ρ st'=>∀ G:ja->St->Prop,(((pre.findSome? fun o=>match lkN d o with | some p=>if (jV N ms d r).testBit p then none else some p | none=>none)=none)->∀ y,G [("apart",some (.ref a)),("of",some (.ref f)),("wishes",some (.ref w)),("register",some (.int (r:Nat))),("taken",some (.int (jV N ms d r:Nat))),("other",y)] st1)->G ρ st')
   (fun _ k=>k rfl _) (fun pre ρ st' h=>h (fun _ t=>ji _ t) fun _ _=>jh (hwrx)) ?_ ?_
 ·rintro pre o post e ρ st' I1 K' hK'
  apply I1;intro hnone y
  l_ints
  refine OE hf ?_
  refine JV (fun hs=>?_) fun hs=>?_
  ·obtain ⟨p,hp⟩:=Option.isSome_iff_exists.mp hs
   l_ints
   refine s_d (Or.inl hf) hp ?_
   l_ints
   refine zu (Nat.lt_of_le_of_lt (hd _ _ hp) (by w_up)) ?_
   refine ⟨_,rfl,?_⟩
   refine JV (fun hb=>?_) fun hb=>?_
   ·l_ints
    refine s_d (Or.inl hf) hp ?_
    have z:=hk _ l1
    unfold Jr at z
    rw [hwx',e,List.findSome?_append,hnone,List.findSome?_cons,hp] at z
    simp only [Option.none_or] at z
    rw [if_neg (by simpa using hb)] at z
    exact z
   ·l_ints
    refine hK' _ _ (fun _ k=>k ?_ _)
    rw [List.findSome?_append,hnone,List.findSome?_cons,hp]
    simp only [Option.none_or,List.findSome?_nil]
    rw [if_pos (by simpa using hb)]
  ·have hp:lkN d o=none:=Option.not_isSome_iff_eq_none.mp (by rw [hs];decide)
   l_ints
   refine hK' _ _ (fun _ k=>k ?_ _)
   rw [List.findSome?_append,hnone,List.findSome?_cons,hp]
   rfl
 ·rintro ρ st' I1
  apply I1;intro hnone y
  l_ints
  refine qD hN Xj ?_
  have z:=hk _ l1
  unfold Jr at z
  rw [hwx',hnone] at z;exact z
theorem ON{N r mask:Nat}{ms:List Nat}(h:∀ x∈ms,x<2 ^ N)(hr:r<N)(hm:mask<2 ^ N):∀ x∈zD N ms r mask,x<2 ^ N:=by
 have hset:∀ (l:List Nat) (i v:Nat),(∀ x∈l,x<2 ^ N)->v<2 ^ N->∀ x∈l.set i ((l[i]?).getD 0 ||| v),x<2 ^ N:=by
  intro l i v hl hv x hx
  rcases List.mem_or_eq_of_mem_set hx with hx | rfl
  ·exact hl x hx
  ·refine Nat.or_lt_two_pow ?_ hv
   cases z:l[i]? with
   |none=>exact Nat.two_pow_pos _
   |some y=>exact hl y (List.mem_of_getElem? z)
 have hf:∀ (xs l:List Nat),(∀ x∈l,x<2 ^ N)->∀ x∈xs.foldl (fun ms x=>ms.set x ((ms[x]?).getD 0 ||| 2 ^ r)) l,x<2 ^ N:=by
  intro xs
  induction xs with
  |nil=>intro l hl;exact hl
  |cons y ys ih=>intro l hl;exact ih _ (hset l y _ hl (Nat.pow_lt_pow_right (by decide) hr))
 exact hf _ _ (hset ms r _ h (jaw hm))
structure TmOk(N:Nat)(t:Tm):Prop where
 given:∀ r∈t.given,r<N
 glen:t.given.length<1000
 all:t.all<2 ^ N
 sub:∀ r∈t.given,t.all.testBit r=true
 op:∀ o,t.op=some o->qm N o
set_option tactic.hygienic true in
theorem TmOk.am{N:Nat}{t:Tm}(h:TmOk N t):t.am<2 ^ N:=by
 unfold Tm.am
 split
 ·rename_i rs e
  exact Nat.or_lt_two_pow h.all (j0 (h.op _ e).1)
 ·exact h.all
theorem Xn{U:Un}{beg:List Nat}(ho:jy U)(hb:yg U beg):∀ t∈tms U beg,TmOk U.count t:=by
 intro t ht
 unfold tms at ht
 rcases List.mem_cons.mp ht with rfl | ht
 ·exact ⟨ho.ent,ho.entl,Nat.or_lt_two_pow (j0 ho.ent) (OF hb 0),fun r hr=>by rw [Nat.testBit_or,maskOf_bit.mpr hr];rfl,fun o e=>by cases e⟩
 ·obtain ⟨⟨B,i⟩,hq,ht⟩:=List.mem_flatMap.mp ht
  have hB:=ho.blk B (List.mem_of_getElem? (List.mk_mem_zipIdx_iff_getElem?.mp hq))
  unfold jY at ht
  rcases List.mem_cons.mp ht with rfl | ht
  ·exact ⟨hB.par,hB.parl,Nat.or_lt_two_pow (j0 hB.par) (OF hb i),fun r hr=>by rw [Nat.testBit_or,maskOf_bit.mpr hr];rfl,fun o e=>by cases e⟩
  ·obtain ⟨⟨⟨o,m⟩,k⟩,hp,rfl⟩:=List.mem_map.mp ht
   have hz:=List.mem_of_getElem? (List.mk_mem_zipIdx_iff_getElem?.mp hp)
   have hoo:=hB.ops o (List.of_mem_zip hz).1
   have hm:=xH (za hB hb.lt) hB.ops m (List.of_mem_zip hz).2
   refine ⟨hoo.2.1,hoo.2.2.2,Nat.or_lt_two_pow hm (j0 hoo.2.1),fun r hr=>?_,fun o' e=>by cases e;exact hoo⟩
   have hr:r∈o.writes:=hr
   show (m ||| jg o.writes).testBit r=true
   rw [Nat.testBit_or,maskOf_bit.mpr hr,Bool.or_true]
theorem ZG{N mask:Nat}(hm:mask<2 ^ N):∀ {rs ms:List Nat},(∀ x∈ms,x<2 ^ N)->(∀ r∈rs,r<N)->∀ x∈yZ N ms rs mask,x<2 ^ N
 |[],ms,h,_=>h
 |r::rs,ms,h,hr=>ZG hm (rs:=rs) (ON h (hr r (List.mem_cons_self ..)) hm) fun y hy=>hr y (List.mem_cons_of_mem _ hy)
theorem QU{N:Nat}:∀ {ts:List Tm}{ms:List Nat},(∀ x∈ms,x<2 ^ N)->(∀ t∈ts,TmOk N t)->∀ x∈ts.foldl (qA N) ms,x<2 ^ N
 |[],ms,h,_=>h
 |t::ts,ms,h,ht=>QU (ts:=ts) (ZG (ht t (List.mem_cons_self ..)).am h (ht t (List.mem_cons_self ..)).given) fun y hy=>ht y (List.mem_cons_of_mem _ hy)
theorem jcw{U:Un}{beg:List Nat}(ho:jy U)(hb:yg U beg):∀ x∈jA U beg,x<2 ^ U.count :=
 QU (fun x hx=>by rw [(List.mem_replicate.mp hx).2];exact Nat.two_pow_pos _) (Xn ho hb)
theorem Vu{U:Un}{beg:List Nat}:(jA U beg).length=U.count:=by unfold jA;rw [xP,List.length_replicate]
def PlAt(st:St)(p f c:Nat):Prop:=∃ d,st p=some (.inst "Places" d [("of",.ref f),("count",.int (c:Nat))])
theorem Jp{n f c:Nat}{st:St}{K:MV->St->Prop}(hk:∀ p st',Le st st'->st p=none->PlAt st' p f c->K (.ref p) st'):Cl (n+2) "Places" [.ref f,.int c] st K:=by
 refine ZV (by decide) fun a d st1 l0 na h1=>?_
 refine jr (f:="Places.__init__") (fn:=fn_Places_init) (by decide) rfl rfl ?_
 unfold fn_Places_init
 one_place
 l_ints
 refine sax h1 (by decide) fun st4 l4 h4=>?_
 l_ints
 refine sax h4 (show (Z9 [] "of" (MV.ref f)).length<100 from (by decide:1<100)) fun st5 l5 h5=>?_
 l_ints
 exact ⟨rfl,hk a st5 ((l0.lx na l4).lx na l5) na ⟨d,h5⟩⟩
noncomputable def jR(U:Un):PD:=U.entry.zipIdx.foldl (fun d p=>j5 d p.1 p.2) []
noncomputable def jk(U:Un)(ms:List Nat)(d:PD)(r:Nat):PD:=match lkN d r with
 |some _=>d
 |none=>j5 d r (Jr U.count ms d (jU U) r)
noncomputable def jd(U:Un)(ms:List Nat):PD:=(zn U).foldl (jk U ms) (jR U)
noncomputable def Je(U:Un)(d:PD):Nat:=d.foldl (fun c e=>max c ((lkN d e.1).getD 0+1)) U.entry.length
def Yo(N:Nat)(d:PD):Prop:=∀ k p,lkN d k=some p->p≤N
theorem Oq{N k p:Nat}{d:PD}(h:Yo N d)(hp:p≤N):Yo N (j5 d k p):=fun j q hj=>by
 rw [JE] at hj
 split at hj
 ·cases hj;exact hp
 ·exact h j q hj
theorem YU{N:Nat}:∀ {xs:List Nat}{k:Nat}{d:PD},Yo N d->k+xs.length≤N->Yo N ((xs.zipIdx k).foldl (fun d p=>j5 d p.1 p.2) d)
 |[],k,d,h,_=>h
 |x::xs,k,d,h,hl=>by
  rw [List.length_cons] at hl
  rw [List.zipIdx_cons]
  exact YU (xs:=xs) (k:=k+1) (Oq h (by w_up)) (by w_up)
theorem yS:∀ {xs:List (Nat×Nat)}{d:PD},(xs.foldl (fun d p=>j5 d p.1 p.2) d).length≤d.length+xs.length
 |[],d=>Nat.le_refl _
 |x::xs,d=>by
  rw [List.foldl_cons,List.length_cons]
  have h1:=yS (xs:=xs) (d:=j5 d x.1 x.2)
  have h2:=Ye (x:=x.1) (v:=x.2) (d:=d)
  w_up
theorem Qd{U:Un}{ms:List Nat}{d:PD}{r:Nat}(h:Yo U.count d):Yo U.count (jk U ms d r):=by
 unfold jk
 split
 ·exact h
 ·exact Oq h (UQ h)
theorem Jg{U:Un}{ms:List Nat}:∀ {rs:List Nat}{d:PD},Yo U.count d->Yo U.count (rs.foldl (jk U ms) d)
 |[],d,h=>h
 |r::rs,d,h=>Jg (rs:=rs) (Qd h)
theorem Zc{U:Un}{ms:List Nat}{d:PD}{r:Nat}:(jk U ms d r).length≤d.length+1:=by
 unfold jk
 split
 ·w_up
 ·exact Ye
theorem JT{U:Un}{ms:List Nat}:∀ {rs:List Nat}{d:PD},(rs.foldl (jk U ms) d).length≤d.length+rs.length
 |[],d=>Nat.le_refl _
 |r::rs,d=>by
  rw [List.foldl_cons,List.length_cons]
  have h1:=JT (U:=U) (ms:=ms) (rs:=rs) (d:=jk U ms d r)
  have h2:=Zc (U:=U) (ms:=ms) (d:=d) (r:=r)
  w_up
theorem gW{N:Nat}:Yo N []:=fun k p h=>by cases h
theorem vW{n u:Nat}{U:Un}{st:St}{K:MV->St->Prop}(hu:UnAt st u U)(ho:jy U)
  (hk:∀ p f beg st',Le st st'->st p=none->st f=none->yg U beg->PlAt st' p f (Je U (jd U (jA U beg)))->st' f=some (.idict (dP (jd U (jA U beg))))->K (.ref p) st'):Cl (n+7) "places_of" [.ref u] st K:=by
 refine jr (fn:=fn_places_of) (by decide) rfl rfl ?_
 unfold fn_places_of
 one_place
 obtain ⟨d,e,bl,qs,h1,h2,h3,h4,h5⟩:=hu.qs
 have hN:=ho.cnt
 l_ints
 refine xW hu ho fun a m beg st1 l1 n1 n1m hbeg hA=>?_
 have hu1:=hu.le l1
 l_ints
 refine vK hu1 ho fun w rs st2 l2 n2 hw=>?_
 have l12:=l1.trans l2
 have hA2:=hA.le l2
 l_ints
 intro f st3 l3 n3 hf
 have l13:=l12.trans l3
 have hA3:=hA2.le l3
 have hw3:=hw.le l3
 have h1':=l13 _ _ h1
 have h2':=l13 _ _ h2
 have n0f:=l12.back n3
 l_ints
 refine ⟨e,_,rfl,h2',?_⟩
 rw [JX]
 refine lp (mv:=fun p:Nat×Nat=>MV.tup [.int (p.2:Nat),.int (p.1:Nat)]) (fun pre ρ st'=>∀ G:ja->St->Prop,(Lx [f] st3 st'->(st' f=some (.idict (dP (pre.foldl (fun d p=>j5 d p.1 p.2) []))))->∀ x y,G [("unit",some (.ref u)),("apart",some (.ref a)),("wishes",some (.ref w)),("of",some (.ref f)),("place",x),("register",y),("count",none)] st')->G ρ st')
   (fun _ q9=>q9 Lx.refl hf _ _) (fun pre ρ st' h=>h (fun _ t=>ji _ t) fun n0 _ _ _=>jh (lxg n0 (jw n0f h2) h2')) ?_ ?_
 ·rintro pre ⟨r,k⟩ post eq ρ st4 I4 K' hK'
  apply I4;intro l4 hf4 x y
  have hpl:pre.length<1000:=by
   have:=congrArg List.length eq
   rw [List.length_zipIdx,List.length_append,List.length_cons] at this
   have:=ho.entl;w_up
  have hdl:=yS (xs:=pre) (d:=[])
  rw [List.length_nil,Nat.zero_add] at hdl
  refine yO rfl ?_
  l_ints
  refine vJ (f:=fun p:Nat=>.int (p:Nat)) (v:=k) hf4 (Nat.lt_of_le_of_lt hdl (Nat.lt_trans hpl (by decide))) fun st5 l5 hf5=>?_
  l_ints
  refine hK' _ _ (fun _ q9=>q9 (l4.trans l5) ?_ _ _)
  rw [List.foldl_append];exact hf5
 ·rintro ρ st4 I4
  apply I4;intro l4 hf4 x y
  have hL4:Le st st4:=l13.lx n0f l4
  have hf4:st4 f=some (.idict (dP (jR U))):=hf4
  have hA4:ApAt st4 a m (jA U beg):=by
   obtain ⟨da,q1,q2⟩:=hA2
   exact ⟨da,lxg l4 (jw n3 q1) (l3 _ _ q1),lxg l4 (jw n3 q2) (l3 _ _ q2)⟩
  have hnf:∀ q,q∈rs->q≠f:=fun q hq e'=>by
   rw [e'] at hq
   exact hw.out n3 hq
  have hwf:w≠f:=jw n3 hw.main
  have hw4:LsAt st1 st4 w rs (jU U):=⟨lxg l4 hwf hw3.main,hw3.len,hw3.nd,hw3.new,hw3.off,fun i r xs a b=>lxg l4 (hnf r (List.mem_of_getElem? a)) (hw3.each i r xs a b)⟩
  have hpb0:Yo U.count (jR U):=YU gW (by rw [Nat.zero_add];exact ho.entc)
  have hln0:(jR U).length≤1000:=by
   refine Nat.le_trans yS ?_
   rw [List.length_nil,Nat.zero_add,List.length_zipIdx]
   exact Nat.le_of_lt ho.entl
  have hms:=jcw ho hbeg
  have hml:(jA U beg).length=U.count:=Vu
  have hwl:(jU U).length=U.count:=by unfold jU;rw [Jz,List.length_map,List.length_range]
  l_ints
  refine y8 (hu.le hL4) ho fun go st5 l5 n5 hgo=>?_
  have hgof:=(jw n5 hf4).symm
  refine j2 hgo ?_
  refine lp (mv:=fun r:Nat=>MV.int (r:Int)) (fun pre ρ st'=>∀ G:ja->St->Prop,(Le st st'->st' go=some (.list (jc (zn U)))->st' f=some (.idict (dP (pre.foldl (jk U (jA U beg)) (jR U))))->ApAt st' a m (jA U beg)->LsAt st1 st' w rs (jU U)->∀ x y,G [("unit",some (.ref u)),("apart",some (.ref a)),("wishes",some (.ref w)),("of",some (.ref f)),("place",x),("register",y),("count",none)] st')->G ρ st')
    (fun _ q9=>q9 (hL4.trans l5) hgo (l5 _ _ hf4) (hA4.le l5) (hw4.le l5) _ _) (fun pre ρ st' h=>h (fun _ t=>ji _ t) fun _ n1 _ _ _ _ _=>jh n1) ?_ ?_
  ·rintro pre r post eq ρ st6 I3 K' hK'
   apply I3;intro l6 hgo6 hf6 hA6 hw6 x y
   have hr:r<U.count:=(YH ho).2 r (by rw [eq];simp)
   have hpb:=Jg (ms:=jA U beg) (rs:=pre) hpb0
   have hln:=JT (U:=U) (ms:=jA U beg) (rs:=pre) (d:=jR U)
   have hpl:pre.length≤1000:=by
    have:=congrArg List.length eq
    have h9:=JF (YH ho)
    rw [List.length_append,List.length_cons] at this
    w_up
   have hstep:(pre++[r]).foldl (jk U (jA U beg)) (jR U)=jk U (jA U beg) (pre.foldl (jk U (jA U beg)) (jR U)) r:=by rw [List.foldl_append];rfl
   generalize hcur:pre.foldl (jk U (jA U beg)) (jR U)=cur at *
   l_ints
   refine Oc hf6 ?_
   refine JV (fun hs=>?_) fun hs=>?_
   ·have hn:lkN cur r=none:=Option.not_isSome_iff_eq_none.mp (by simpa using hs)
    l_ints
    refine zX hA6 hml hN hms hr hf6 hpb hw6 hwl fun st7 l7=>?_
    have hf7:=l7 _ _ hf6
    l_ints
    refine vJ (f:=fun p:Nat=>.int (p:Nat)) hf7 (by unfold jb;w_up) fun st8 l8 hf8=>?_
    l_ints
    have hA7:=hA6.le l7
    have hw7:=hw6.le l7
    refine hK' _ _ (fun _ q9=>q9 ((l6.trans l7).lx n0f l8) (lxg l8 hgof (l7 _ _ hgo6)) ?_ ?_ ?_ _ _)
    ·rw [hstep];unfold jk;rw [hn];exact hf8
    ·obtain ⟨da,q1,q2⟩:=hA7
     refine ⟨da,lxg l8 (fun e'=>?_) q1,lxg l8 (fun e'=>?_) q2⟩
     ·rw [e',hf7] at q1;cases q1
     ·rw [e',hf7] at q2;cases q2
    ·exact ⟨lxg l8 hwf hw7.main,hw7.len,hw7.nd,hw7.new,hw7.off,fun i r xs a b=>lxg l8 (hnf r (List.mem_of_getElem? a)) (hw7.each i r xs a b)⟩
   ·obtain ⟨p,hp⟩:∃ p,lkN cur r=some p:=Option.isSome_iff_exists.mp (by simpa using hs)
    l_ints
    refine hK' _ _ (fun _ q9=>q9 l6 hgo6 ?_ hA6 hw6 _ _)
    rw [hstep];unfold jk;rw [hp];exact hf6
  ·rintro ρ st6 I3
   apply I3;intro l6 hgo6 hf6 hA6 hw6 x y
   have hf6:st6 f=some (.idict (dP (jd U (jA U beg)))):=hf6
   have h1':=l6 _ _ h1
   have h2':=l6 _ _ h2
   l_ints
   refine Jq h2' ?_
   rw [je]
   l_ints
   refine jed (ya rfl ⟨f,_,rfl,hf6,?_⟩)
   have hmap:((dP (jd U (jA U beg))).map fun e=>MV.int e.1)=(jd U (jA U beg)).map fun e:Nat×Nat=>MV.int (e.1:Nat):=by
    unfold dP dN;rw [List.map_map];rfl
   rw [hmap]
   have hput:Lx [f] st6 (st6.put f (.fdict (dP (jd U (jA U beg))))):=Lx.self
   have hpf:(st6.put f (.fdict (dP (jd U (jA U beg))))) f=some (.fdict (dP (jd U (jA U beg)))):=yk
   generalize st6.put f (.fdict (dP (jd U (jA U beg))))=st7 at *
   refine lp (mv:=fun e:Nat×Nat=>MV.int (e.1:Nat)) (fun pre ρ st'=>∀ G:ja->St->Prop,(∀ x y,G [("unit",some (.ref u)),("apart",some (.ref a)),("wishes",some (.ref w)),("of",some (.ref f)),("place",x),("register",y),("count",some (.int (pre.foldl (fun c e=>max c ((lkN (jd U (jA U beg)) e.1).getD 0+1)) U.entry.length:Nat)))] st7)->G ρ st')
     (fun _ q9=>q9 _ _) (fun pre ρ st' h=>h (fun _ t=>ji _ t) fun _ _=>jh (hpf)) ?_ ?_
   ·rintro pre ⟨k,q⟩ post eq ρ st' I2 K' hK'
    apply I2;intro x y
    obtain ⟨p,hp⟩:∃ p,lkN (jd U (jA U beg)) k=some p:=Option.isSome_iff_exists.mp (lkN_isSome.mpr (by rw [eq];simp))
    l_ints
    refine s_d (f:=fun p:Nat=>.int (p:Nat)) (Or.inr hpf) hp ?_
    l_ints
    refine jbS ?_
    l_ints
    refine hK' _ _ (fun G q9=>(congrArg (fun ρ=>G ρ _) ?_).mpr (q9 x (some (.int k))))
    rw [List.foldl_append,List.foldl_cons,List.foldl_nil,hp];rfl
   ·rintro ρ st' I2
    apply I2;intro x y
    have l8:Lx [f] st6 (st7.put f (.idict (dP (jd U (jA U beg))))):=hput.put (by simp)
    have hf8:(st7.put f (.idict (dP (jd U (jA U beg))))) f=some (.idict (dP (jd U (jA U beg)))):=yk
    generalize st7.put f (.idict (dP (jd U (jA U beg))))=st8 at *
    l_ints
    refine Jp fun p st9 l9 n9 hp=>?_
    have hL8:Le st st8:=l6.lx n0f l8
    exact hk p f beg st9 (hL8.trans l9) (hL8.back n9) n0f hbeg hp (l9 _ _ hf8)
noncomputable def yC(U:Un):PD:=(zn U).foldl (fun d r=>j5 d r d.length) []
theorem qi{n u:Nat}{U:Un}{st:St}{K:MV->St->Prop}(hu:UnAt st u U)(ho:jy U)
  (hk:∀ p f st',Le st st'->st p=none->st f=none->PlAt st' p f (yC U).length->st' f=some (.idict (dP (yC U)))->K (.ref p) st'):Cl (n+4) "plain_places" [.ref u] st K:=by
 refine jr (fn:=fn_plain_places) (by decide) rfl rfl ?_
 unfold fn_plain_places
 one_place
 l_ints
 intro f st1 l1 n1 hf
 l_ints
 refine y8 (hu.le l1) ho fun g st2 l2 n2 hg=>?_
 have hgf:=jw n2 hf
 refine j2 hg ?_
 have hpl:∀ (rs:List Nat) (d:PD),(rs.foldl (fun d r=>j5 d r d.length) d).length≤d.length+rs.length:=by
  intro rs
  induction rs with
  |nil=>intro d;exact Nat.le_refl _
  |cons r rs ih =>
   intro d
   rw [List.foldl_cons,List.length_cons]
   have h1:=ih (j5 d r d.length)
   have h2:=Ye (x:=r) (v:=d.length) (d:=d)
   w_up
 refine lp (mv:=fun r:Nat=>MV.int (r:Int)) (fun pre ρ st'=>∀ G:ja->St->Prop,(Le st st'->st' g=some (.list (jc (zn U)))->(st' f=some (.idict (dP (pre.foldl (fun d r=>j5 d r d.length) []))))->∀ y,G [("unit",some (.ref u)),("of",some (.ref f)),("register",y)] st')->G ρ st')
   (fun _ q9=>q9 (l1.trans l2) hg (l2 _ _ hf) _) (fun pre ρ st' h=>h (fun _ t=>ji _ t) fun _ n1 _ _=>jh n1) ?_ ?_
 ·rintro pre r post eq ρ st3 I1 K' hK'
  apply I1;intro l3 hg3 hf3 y
  have hl:=hpl pre []
  have hg9:pre.length≤1000:=by
   have:=congrArg List.length eq
   have h9:=JF (YH ho)
   have hN:=ho.cnt
   rw [List.length_append,List.length_cons] at this
   w_up
  rw [List.length_nil] at hl
  l_ints
  refine uR hf3 ?_
  unfold dP
  rw [qG]
  l_ints
  refine vJ (f:=fun p:Nat=>.int (p:Nat)) hf3 (Nat.lt_of_le_of_lt hl (by unfold jb;w_up)) fun st4 l4 hf4=>?_
  l_ints
  refine hK' _ _ (fun _ q9=>q9 (l3.lx n1 l4) (lxg l4 hgf.symm hg3) ?_ _)
  rw [List.foldl_append];exact hf4
 ·rintro ρ st3 I1
  apply I1;intro l3 hg3 hf3 y
  l_ints
  refine uR hf3 ?_
  unfold dP
  rw [qG]
  l_ints
  refine Jp fun p st4 l4 n4 hp=>?_
  exact hk p f st4 (l3.trans l4) (l3.back n4) n1 hp (l4 _ _ hf3)
noncomputable def pl(d:PD)(r:Nat):Nat:=(lkN d r).getD 0
def Total(N:Nat)(d:PD):Prop:=(∀ r,r<N->∃ p,lkN d r=some p)/\∀ k p,lkN d k=some p->p<4096
theorem Total.get{N r:Nat}{d:PD}(h:Total N d)(hr:r<N):lkN d r=some (pl d r):=by
 obtain ⟨p,hp⟩:=h.1 r hr
 unfold pl;rw [hp];rfl
noncomputable def xO(d:PD):List Nat->PD->Option (Nat×Nat)
 |[],_=>none
 |r::rs,met=>match lkN met (pl d r) with
  |some q=>some (q,r)
  |none=>xO d rs (j5 met (pl d r) r)
noncomputable def yK(N:Nat)(d:PD)(m:Nat):Option (Nat×Nat):=xO d (jn N m) []
noncomputable def pmv:Option (Nat×Nat)->MV
 |none=>.none
 |some (a,b)=>.tup [.int (a:Nat),.int (b:Nat)]
theorem Yj{n f m N:Nat}{d:PD}{st:St}{K:MV->St->Prop}(hf:st f=some (.idict (dP d)))(hd:Total N d)(hN:N<1000)(hm:m<2 ^ N)
  (hk:∀ st',Le st st'->K (pmv (yK N d m)) st'):Cl (n+2) "clash_in" [.ref f,.int m] st K:=by
 refine jr (fn:=fn_clash_in) (by decide) rfl rfl ?_
 unfold fn_clash_in
 one_place
 l_ints
 intro g st1 l1 n1 hg
 l_ints
 refine YS hm (by w_up) fun b st2 l2 n2 hb=>?_
 have hbg:=(jw n2 hg).symm
 have hfg:=jw n1 hf
 refine j2 hb ?_
 refine lp (mv:=fun r:Nat=>MV.int (r:Int)) (fun pre ρ st'=>∀ G:ja->St->Prop,(Le st st'->st' b=some (.list (jc (jn N m)))->∀ met:PD,met.length≤pre.length->st' g=some (.idict (dP met))->yK N d m=xO d ((jn N m).drop pre.length) met->∀ y,G [("of",some (.ref f)),("mask",some (.int (m:Nat))),("met",some (.ref g)),("register",y)] st')->G ρ st')
   (fun _ k=>k (l1.trans l2) hb [] (Nat.le_refl _) (l2 _ _ hg) rfl _) (fun pre ρ st' h=>h (fun _ t=>ji _ t) fun _ n1 _ _ _ _ _=>jh n1) ?_ ?_
 ·rintro pre r post e ρ st3 I2 K' hK'
  apply I2;intro l3 hb3 met hml hg3 hc y
  have hr:r<N:=yT (m:=m) (by rw [e];simp)
  have hp:=hd.get hr
  have hf3:=l3 _ _ hf
  have hdr:(jn N m).drop pre.length=r::post:=by rw [e,List.drop_left]
  have hdr':(jn N m).drop (pre++[r]).length=post:=by rw [e,show pre++r::post=(pre++[r])++post by simp,List.drop_left]
  have hpl:pre.length≤1000:=by
   have:=congrArg List.length e
   have h9:=VU (N:=N) (m:=m)
   rw [List.length_append,List.length_cons] at this
   w_up
  rw [hdr] at hc
  unfold xO at hc
  l_ints
  refine s_d (f:=fun p:Nat=>.int (p:Nat)) (Or.inl hf3) hp ?_
  l_ints
  refine OE (f:=fun p:Nat=>.int (p:Nat)) hg3 ?_
  refine JV (fun hs=>?_) fun hs=>?_
  ·obtain ⟨q,hq⟩:=Option.isSome_iff_exists.mp hs
   rw [hq] at hc
   l_ints
   refine s_d (f:=fun p:Nat=>.int (p:Nat)) (Or.inl hf3) hp ?_
   refine s_d (f:=fun p:Nat=>.int (p:Nat)) (Or.inl hg3) hq ?_
   l_ints
   have z:=hk _ l3
   rw [hc] at z;exact z
  ·have hq:lkN met (pl d r)=none:=Option.not_isSome_iff_eq_none.mp (by rw [hs];decide)
   rw [hq] at hc
   l_ints
   refine s_d (f:=fun p:Nat=>.int (p:Nat)) (Or.inl hf3) hp ?_
   refine vJ (f:=fun p:Nat=>.int (p:Nat)) hg3 (Nat.lt_of_le_of_lt hml (by unfold jb;w_up)) fun st4 l4 hg4=>?_
   l_ints
   refine hK' _ _ (fun _ k=>k (l3.lx n1 l4) (lxg l4 hbg hb3) _ ?_ hg4 ?_ _)
   ·have:=Ye (x:=pl d r) (v:=r) (d:=met)
    rw [List.length_append,List.length_singleton]
    exact Nat.le_trans this (by w_up)
   ·rw [hdr'];exact hc
 ·rintro ρ st3 I2
  apply I2;intro l3 hb3 met hml hg3 hc y
  l_ints
  have z:=hk _ l3
  rw [hc,List.drop_length] at z;exact z
noncomputable def oU(d:PD)(op:Op)(r:Nat):Bool:=(op.reads.filter fun s=>decide (s∉op.writes)).any fun s=>decide (pl d s=pl d r)
theorem zV{n f r N:Nat}{d:PD}{op:Op}{st:St}{K:MV->St->Prop}(hf:st f=some (.idict (dP d)))(hd:Total N d)(ho:qm N op)(hr:r<N)
  (hk:∀ st',Le st st'->K (.bool (oU d op r)) st'):Cl (n+3) "is_clobbered" [.ref f,op.mv,.int r] st K:=by
 refine jr (fn:=fn_is_clobbered) (by decide) rfl rfl ?_
 unfold fn_is_clobbered
 one_place
 obtain ⟨ho1,ho2,ho3,ho4⟩:=ho
 l_ints
 refine jC (Nat.lt_trans ho4 (by decide)) fun w st1 l1 n1 hw=>?_
 l_ints
 refine yD (Nat.lt_trans ho3 (by decide)) (Nat.lt_trans ho4 (by decide)) fun q st2 l2 n2 hq=>?_
 have hw:=l2 _ _ hw
 have hf2:=l2 _ _ (l1 _ _ hf)
 refine j2 hq ?_
 refine cp (mv:=fun r:Nat=>MV.int (r:Int)) (fun _ st'=>st'=st2) (fun x=>if decide (x∉op.writes) then some (.bool (decide (pl d x=pl d r))) else none) rfl (fun _ st' e=>by rw [e];exact jh hq) ?_ ?_
 ·rintro pre1 y1 post1 e1 st' rfl K1 hK1
  have hy:=ho1 y1 (by rw [e1];simp)
  l_ints
  refine YZ hw ?_
  refine yQ (fun hn=>?_) fun hn=>?_
  ·l_ints
   refine s_d (f:=fun p:Nat=>.int (p:Nat)) (Or.inl hf2) (hd.get hy) ?_
   l_ints
   refine s_d (f:=fun p:Nat=>.int (p:Nat)) (Or.inl hf2) (hd.get hr) ?_
   refine GY ?_
   have z:=hK1 _ rfl
   rw [decide_eq_true hn] at z;exact z
  ·have z:=hK1 _ rfl
   rw [decide_eq_false hn] at z;exact z
 ·rintro st' rfl
  rw [qE (f:=fun x=>MV.bool (decide (pl d x=pl d r)))]
  refine cal (by rw [List.length_map];exact Nat.lt_of_le_of_lt (List.length_filter_le ..) (Nat.lt_trans ho3 (by decide))) fun o st3 l3 n3 h3=>?_
  l_ints
  refine jdJ (xs:=(op.reads.filter fun s=>decide (s∉op.writes)).map fun s=>decide (pl d s=pl d r)) (by rw [h3,List.map_map];rfl) ?_
  have z:=hk _ (l1.trans (l2.trans l3))
  unfold oU at z
  rw [List.any_map];exact z
noncomputable def YQ(N:Nat)(d:PD)(op:Op)(all r:Nat):Option (Nat×Nat):=match yK N d all with
 |some c=>some c
 |none=>if op.isFix&&oU d op r then some (r,r) else none
noncomputable def YE(N:Nat)(d:PD)(op:Op)(all:Nat):Option (Nat×Nat):=op.writes.findSome? (YQ N d op all)
theorem yd{α β:Type}{g:α->Option β}{xs pre post:List α}{x:α}(e:xs=pre++x::post)(hn:pre.findSome? g=none):xs.findSome? g=(g x).or (post.findSome? g):=by
 rw [e,List.findSome?_append,hn,Option.none_or,List.findSome?_cons]
 cases g x<;>rfl
theorem yc{α β:Type}{g:α->Option β}{pre:List α}{x:α}(hn:pre.findSome? g=none)(hx:g x=none):(pre++[x]).findSome? g=none:=by
 rw [yd rfl hn,hx];rfl
theorem X0{n f N after:Nat}{d:PD}{op:Op}{st:St}{K:MV->St->Prop}(hf:st f=some (.idict (dP d)))(hd:Total N d)(hN:N<1000)(ho:qm N op)(hm:after<2 ^ N)
  (hk:∀ st',Le st st'->K (pmv (YE N d op (after ||| jg op.writes))) st'):Cl (n+4) "op_clash" [.ref f,op.mv,.int after] st K:=by
 refine jr (fn:=fn_op_clash) (by decide) rfl rfl ?_
 unfold fn_op_clash
 one_place
 obtain ⟨ho1,ho2,ho3,ho4⟩:=ho
 l_ints
 refine jC (Nat.lt_trans ho4 (by decide)) fun w st1 l1 n1 hw=>?_
 refine j2 hw ?_
 have hmw:after ||| jg op.writes<2 ^ N:=Nat.or_lt_two_pow hm (j0 ho2)
 refine lp (mv:=fun r:Nat=>MV.int (r:Int)) (fun pre ρ st'=>∀ G:ja->St->Prop,(Le st st'->st' w=some (.list (jc op.writes))->pre.findSome? (YQ N d op (after ||| jg op.writes))=none->∀ y z,G [("of",some (.ref f)),("op",some op.mv),("after",some (.int (after:Nat))),("register",y),("found",z)] st')->G ρ st')
   (fun _ k=>k l1 hw rfl _ _) (fun pre ρ st' h=>h (fun _ t=>ji _ t) fun _ n1 _ _ _=>jh n1) ?_ ?_
 ·rintro pre r post e ρ st2 I1 K' hK'
  apply I1;intro l2 hw2 hn y z
  have hr:r<N:=ho2 r (by rw [e];simp)
  have hres:YE N d op (after ||| jg op.writes)=_:=yd e hn
  l_ints
  refine jC (Nat.lt_trans ho4 (by decide)) fun w2 st3 l3 n3 hw3=>?_
  l_ints
  refine jK hw3 (fun x hx=>Nat.lt_trans (ho2 x hx) (by w_up)) ?_
  l_ints
  refine Yj (l3 _ _ (l2 _ _ hf)) hd hN hmw fun st4 l4=>?_
  have l24:=l2.trans (l3.trans l4)
  have hw4:=l4 _ _ (l3 _ _ hw2)
  l_ints
  cases hcl:yK N d (after ||| jg op.writes) with
  |some c =>
   obtain ⟨c1,c2⟩:=c
   refine X1 ?_
   l_ints
   have z:=hk _ l24
   unfold YQ at hres;rw [hres,hcl] at z;rw [hcl];exact z
  |none =>
   refine Jn ?_
   l_ints
   refine oS fun s hs=>?_
   l_ints
   refine o4 ?_
   refine yQ (fun e'=>?_) fun e'=>?_
   ·have hfx:=hs.mp e'
    l_ints
    refine zV (l24 _ _ hf) hd ⟨ho1,ho2,ho3,ho4⟩ hr fun st5 l5=>?_
    refine JV (fun hb=>?_) fun hb=>?_
    ·l_ints
     have z:=hk _ (l24.trans l5)
     unfold YQ at hres;rw [hres,hcl,hfx,hb] at z;exact z
    ·l_ints
     refine hK' _ _ (fun _ k=>k (l24.trans l5) (l5 _ _ hw4) ?_ _ _)
     exact yc hn (by unfold YQ;rw [hcl,hfx,hb];rfl)
   ·have hfx:op.isFix=false:=by
     cases hz:op.isFix with
     |false=>rfl
     |true=>exact absurd (hs.mpr hz) e'
    l_ints
    refine hK' _ _ (fun _ k=>k l24 hw4 ?_ _ _)
    exact yc hn (by unfold YQ;rw [hcl,hfx];rfl)
 ·rintro ρ st2 I1
  apply I1;intro l2 hw2 hn y z
  l_ints
  have z:=hk _ l2
  unfold YE at z
  rw [hn] at z;exact z
theorem nx{i:Int}{P:Int->Prop}(k:P i):∃ j,MV.int i=.int j/\P j:=⟨i,rfl,k⟩
set_option hygiene false in
set_option compiler.extract_closed false in
local macro_rules | `(tactic| leaf_len) => `(tactic| first | lt_chain | with_reducible refine nx ?_)
noncomputable def yJ(N:Nat)(d:PD)(t:Tm):Option (Nat×Int×Nat×Nat):=match t.op with
 |none=>(yK N d t.all).map fun c=>(t.num,t.pos,c)
 |some o=>(YE N d o t.all).map fun c=>(t.num,t.pos,c)
noncomputable def y2(U:Un)(beg:List Nat)(d:PD):Option (Nat×Int×Nat×Nat):=(tms U beg).findSome? (yJ U.count d)
noncomputable def wmv:Option (Nat×Int×Nat×Nat)->MV
 |none=>.none
 |some (i,k,a,b)=>.tup [.int (i:Nat),.int k,.tup [.int (a:Nat),.int (b:Nat)]]
theorem jbT{os:List Op}{i:Nat}{o:Op}(h:os[i]? = some o):(os.map Op.mv)[i]? = some o.mv:=by rw [List.getElem?_map,h];rfl
theorem Y7{n u f:Nat}{U:Un}{d:PD}{st:St}{K:MV->St->Prop}(hu:UnAt st u U)(ho:jy U)(hf:st f=some (.idict (dP d)))(hd:Total U.count d)
  (hk:∀ beg st',Le st st'->yg U beg->K (wmv (y2 U beg d)) st'):Cl (n+6) "wrong_pair" [.ref u,.ref f] st K:=by
 refine jr (fn:=fn_wrong_pair) (by decide) rfl rfl ?_
 unfold fn_wrong_pair
 one_place
 have hN:=ho.cnt
 l_ints
 refine xA hu ho fun g beg st1 l1 n1 hg hbeg=>?_
 have hu1:=hu.le l1
 obtain ⟨du,e,bl,qs,h1,h2,h3,h4,h5⟩:=hu1.qs
 have hf1:=l1 _ _ hf
 obtain ⟨b0,hb0⟩:∃ x,beg[0]? = some x:=⟨_,List.getElem?_eq_getElem (by rw [hbeg.len];exact ho.pos)⟩
 have hb0':(beg[0]?).getD 0=b0:=by rw [hb0];rfl
 have hb0l:b0<2 ^ U.count:=hbeg.lt b0 (List.mem_of_getElem? hb0)
 l_ints
 refine jK h2 (fun x hx=>Nat.lt_trans (ho.ent x hx) (by w_up)) ?_
 l_ints
 refine zl hg (j9 hb0) ?_
 l_ints
 refine Yj hf1 hd hN (Nat.or_lt_two_pow (j0 ho.ent) hb0l) fun st2 l2=>?_
 have l12:=l1.trans l2
 have hfirst:yJ U.count d ⟨0,-1,U.entry,jg U.entry ||| (beg[0]?).getD 0,none⟩=(yK U.count d (jg U.entry ||| b0)).map fun c=>(0,-1,c):=by
  rw [hb0'];rfl
 l_ints
 cases hcl:yK U.count d (jg U.entry ||| b0) with
 |some c =>
  obtain ⟨c1,c2⟩:=c
  refine X1 ?_
  l_ints
  have z:=hk beg _ l12 hbeg
  unfold y2 tms at z
  rw [List.findSome?_cons,hfirst,hcl] at z
  rw [hcl];exact z
 |none =>
  refine Jn ?_
  have h1':=l2 _ _ h1
  have h3':=l2 _ _ h3
  rw [hcl] at hfirst
  have hwr:y2 U beg d=(U.blocks.zipIdx.flatMap (jY U beg)).findSome? (yJ U.count d):=by
   unfold y2 tms
   rw [List.findSome?_cons,hfirst];rfl
  l_ints
  refine lp (mv:=fun q:Nat×Bk×Nat=>MV.ref q.1) (fun pre ρ st'=>∀ G:ja->St->Prop,(Le st1 st'->((pre.map Prod.snd).flatMap (jY U beg)).findSome? (yJ U.count d)=none->∀ x y z w,G [("unit",some (.ref u)),("of",some (.ref f)),("begins",some (.ref g)),("found",x),("block",y),("at",z),("after",w)] st')->G ρ st')
    (fun _ k=>k l2 rfl _ _ _ _) (fun pre ρ st' h=>h (fun _ t=>ji _ t) fun n0 _ _ _ _ _=>jh (n0 _ _ h3)) ?_ ?_
  ·rintro pre q post eq ρ st4 I4 K' hK'
   apply I4;intro l4 hnone x y z w
   obtain ⟨b,B,i⟩:=q
   have hm:(b,B,i)∈qs:=by rw [eq];simp
   have hBi:=YX h4 hm
   have hBok:=ho.blk B (List.mem_of_getElem? hBi)
   have hilt:i<U.blocks.length:=(List.getElem?_eq_some_iff.mp hBi).1
   have hb1:=h5 _ hm
   obtain ⟨db,pb,ob,hb2,hb3,hb4⟩:=h5 _ hm
   simp only at hb1 hb2 hb3 hb4
   obtain ⟨bi,hbi⟩:∃ x,beg[i]? = some x:=⟨_,List.getElem?_eq_getElem (by rw [hbeg.len];exact hilt)⟩
   have hbi':(beg[i]?).getD 0=bi:=by rw [hbi];rfl
   have hbil:bi<2 ^ U.count:=hbeg.lt bi (List.mem_of_getElem? hbi)
   have hb2':=l4 _ _ hb2
   have hb3':=l4 _ _ hb3
   have hg4:=l4 _ _ hg
   have hall:U.blocks.zipIdx.flatMap (jY U beg)=(pre.map Prod.snd).flatMap (jY U beg)++(jY U beg (B,i)++(post.map Prod.snd).flatMap (jY U beg)):=by
    rw [← show qs.map Prod.snd=U.blocks.zipIdx from h4,eq,List.map_append,List.flatMap_append];rfl
   have hrest:y2 U beg d=(jY U beg (B,i)++(post.map Prod.snd).flatMap (jY U beg)).findSome? (yJ U.count d):=by
    rw [hwr,hall,List.findSome?_append,hnone,Option.none_or]
   have hpre':((pre++[(b,B,i)]).map Prod.snd).flatMap (jY U beg)=(pre.map Prod.snd).flatMap (jY U beg)++jY U beg (B,i):=by
    rw [List.map_append,List.flatMap_append];simp
   have hpt:yJ U.count d ⟨i,-1,B.params,jg B.params ||| (beg[i]?).getD 0,none⟩=(yK U.count d (jg B.params ||| bi)).map fun c=>(i,-1,c):=by
    rw [hbi'];rfl
   l_ints
   refine jK hb3' (fun x hx=>Nat.lt_trans (hBok.par x hx) (by w_up)) ?_
   l_ints
   refine s_l hg4 (j9 hbi) ?_
   l_ints
   refine Yj (l4 _ _ hf1) hd hN (Nat.or_lt_two_pow (j0 hBok.par) hbil) fun st5 l5=>?_
   have l45:=l4.trans l5
   have hb2'':=l45 _ _ hb2
   l_ints
   cases hcl2:yK U.count d (jg B.params ||| bi) with
   |some c =>
    obtain ⟨c1,c2⟩:=c
    refine X1 ?_
    l_ints
    have z:=hk beg _ (l1.trans l45) hbeg
    rw [hrest] at z
    unfold jY at z
    rw [List.cons_append,List.findSome?_cons,hpt,hcl2] at z
    rw [hcl2];exact z
   |none =>
    refine Jn ?_
    rw [hcl2] at hpt
    have hrest2:y2 U beg d=((B.ops.zip (jj U B beg)).zipIdx.map (X7 i)++(post.map Prod.snd).flatMap (jY U beg)).findSome? (yJ U.count d):=by
     rw [hrest];unfold jY
     rw [List.cons_append,List.findSome?_cons,hpt];rfl
    l_ints
    refine YC (hu1.le l45) ho (hb1.le l45) hBok (l45 _ _ hg) hbeg.len fun lb st6 l6 n6 h8=>?_
    have l46:=l45.trans l6
    refine ⟨lb,_,rfl,h8,?_⟩
    rw [JX]
    have hzl:(jj U B beg).length=B.ops.length:=x9
    refine lp (mv:=fun p:Nat×Nat=>MV.tup [.int (p.2:Nat),.int (p.1:Nat)]) (fun pr ρ st'=>∀ G:ja->St->Prop,(Le st1 st'->st' lb=some (.list (jc (jj U B beg)))->((((B.ops.zip (jj U B beg)).take pr.length).zipIdx.map (X7 i)).findSome? (yJ U.count d)=none)->∀ x z w,G [("unit",some (.ref u)),("of",some (.ref f)),("begins",some (.ref g)),("found",x),("block",some (.ref b)),("at",z),("after",w)] st')->G ρ st')
      (fun _ k=>k l46 h8 rfl _ _ _) (fun pr ρ st' h=>h (fun _ t=>ji _ t) fun _ n1 _ _ _ _=>jh n1) ?_ ?_
    ·rintro pr ⟨mk,k⟩ ps ec ρ st7 I3 K1 hK1
     apply I3;intro l7 h9 hnn x z w
     have hk1:(jj U B beg).zipIdx[pr.length]? = some (mk,k):=by rw [ec];simp
     rw [List.getElem?_zipIdx] at hk1
     obtain ⟨mk',hmk,hke⟩:=Option.map_eq_some_iff.mp hk1
     simp only [Nat.zero_add,Prod.mk.injEq] at hke
     obtain ⟨rfl,rfl⟩:=hke
     have hkl:pr.length<B.ops.length:=by rw [← hzl];exact (List.getElem?_eq_some_iff.mp hmk).1
     obtain ⟨o,hoi⟩:∃ o,B.ops[pr.length]? = some o:=⟨_,List.getElem?_eq_getElem hkl⟩
     have hoo:=hBok.ops o (List.mem_of_getElem? hoi)
     have hmm:=xH (za hBok hbeg.lt) hBok.ops mk' (List.mem_of_getElem? hmk)
     have hzi:(B.ops.zip (jj U B beg))[pr.length]? = some (o,mk'):=List.getElem?_zip_eq_some.mpr ⟨hoi,hmk⟩
     have htk:((B.ops.zip (jj U B beg)).take (pr.length+1)).zipIdx.map (X7 i)=((B.ops.zip (jj U B beg)).take pr.length).zipIdx.map (X7 i)++[X7 i ((o,mk'),pr.length)]:=by
      rw [List.take_add_one,hzi]
      show (((B.ops.zip (jj U B beg)).take pr.length++[(o,mk')]).zipIdx.map (X7 i))=_
      rw [xo,List.map_append,List.length_take]
      rw [Nat.min_eq_left (by rw [List.length_zip];w_up),Nat.zero_add];rfl
     have hb2''':=l7 _ _ hb2
     refine yO rfl ?_
     l_ints
     refine s_l (l7 _ _ hb4) (jbT hoi) ?_
     l_ints
     refine X0 (l7 _ _ hf1) hd hN hoo hmm fun st8 l8=>?_
     have l78:=l7.trans l8
     have hb2'''':=l78 _ _ hb2
     have hwt:yJ U.count d (X7 i ((o,mk'),pr.length))=(YE U.count d o (mk' ||| jg o.writes)).map fun c=>(i,((pr.length:Nat):Int),c):=rfl
     l_ints
     cases hcl3:YE U.count d o (mk' ||| jg o.writes) with
     |some c =>
      obtain ⟨c1,c2⟩:=c
      refine X1 ?_
      l_ints
      have z:=hk beg _ (l1.trans l78) hbeg
      rw [hrest2,List.findSome?_append] at z
      have hdr:(B.ops.zip (jj U B beg))=(B.ops.zip (jj U B beg)).take (pr.length+1)++(B.ops.zip (jj U B beg)).drop (pr.length+1):=(List.take_append_drop ..).symm
      rw [hdr,List.zipIdx_append,List.map_append,List.findSome?_append,htk,List.findSome?_append,hnn,Option.none_or,List.findSome?_cons,hwt,hcl3] at z
      rw [hcl3];exact z
     |none =>
      refine Jn ?_
      l_ints
      refine hK1 _ _ (fun _ k=>k l78 (l8 _ _ h9) ?_ _ _ _)
      rw [List.length_append,List.length_singleton,htk]
      exact yc hnn (by rw [hwt,hcl3];rfl)
    ·rintro ρ st7 I3
     apply I3;intro l7 h9 hnn x z w
     l_ints
     refine hK' _ _ (fun _ k=>k l7 ?_ _ _ _ _)
     rw [hpre',List.findSome?_append,hnone,Option.none_or]
     unfold jY
     rw [List.findSome?_cons,hpt]
     rw [List.take_of_length_le (by rw [List.length_zip,List.length_zipIdx];w_up)] at hnn
     exact hnn
  ·rintro ρ st4 I4
   apply I4;intro l4 hnone x y z w
   l_ints
   have z:=hk beg _ (l1.trans l4) hbeg
   rw [show qs.map Prod.snd=U.blocks.zipIdx from h4] at hnone
   rw [hwr,hnone] at z
   exact z
noncomputable def j1(U:Un)(beg:List Nat)(d:PD)(c:Nat):Bool :=
 U.entry.zipIdx.all (fun p=>decide (lkN d p.1=some p.2))&&((zn U).all (fun r=>(lkN d r).isSome&&decide (pl d r<c))&&(y2 U beg d).isNone)
theorem y9{n u p f c:Nat}{U:Un}{d:PD}{st:St}{K:MV->St->Prop}(hu:UnAt st u U)(ho:jy U)(hp:PlAt st p f c)(hf:st f=some (.idict (dP d)))(hd:Total U.count d)
  (hk:∀ beg st',Le st st'->yg U beg->K (.bool (j1 U beg d c)) st') (hbex:∃ beg,yg U beg):Cl (n+7) "lives_apart" [.ref u,.ref p] st K:=by
 refine jr (fn:=fn_lives_apart) (by decide) rfl rfl ?_
 unfold fn_lives_apart
 one_place
 obtain ⟨beg0,hbeg0⟩:=hbex
 obtain ⟨du,e,bl,qs,h1,h2,h3,h4,h5⟩:=hu.qs
 obtain ⟨dp,hp1⟩:=hp
 have hN:=ho.cnt
 l_ints
 refine ⟨e,_,rfl,h2,?_⟩
 rw [JX]
 refine lp (mv:=fun p:Nat×Nat=>MV.tup [.int (p.2:Nat),.int (p.1:Nat)]) (fun pre ρ st'=>∀ G:ja->St->Prop,((pre.all (fun p=>decide (lkN d p.1=some p.2))=true)->∀ x y,G [("unit",some (.ref u)),("places",some (.ref p)),("place",x),("register",y)] st)->G ρ st')
   (fun _ k=>k rfl _ _) (fun pre ρ st' h=>h (fun _ t=>ji _ t) fun _ _ _=>jh (h2)) ?_ ?_
 ·rintro pre ⟨r,k⟩ post eq ρ st' I2 K' hK'
  apply I2;intro hall x y
  refine yO rfl ?_
  l_ints
  refine ⟨jfa hf,?_⟩
  l_ints
  refine jfE (f:=fun p:Nat=>.int (p:Nat)) hf ?_
  l_ints
  have hbad:lkN d r≠some k->j1 U beg0 d c=false:=fun hne=>by
   unfold j1
   rw [eq,List.all_append,List.all_cons,decide_eq_false hne];simp
  have hgood:lkN d r=some k->(pre++[(r,k)]).all (fun p=>decide (lkN d p.1=some p.2))=true:=fun he=>by
   rw [List.all_append,hall,List.all_cons,decide_eq_true he];rfl
  cases hq:lkN d r with
  |none =>
   refine jhO (yQ (fun _=>?_) fun hn=>?_)
   ·l_ints
    have z:=hk beg0 _ Le.refl hbeg0
    rw [hbad (by rw [hq];simp)] at z;exact z
   ·exact absurd (show (-1:Int)≠(k:Int) by w_up) hn
  |some q =>
   refine QZ (yQ (fun hn=>?_) fun hn=>?_)
   ·l_ints
    have z:=hk beg0 _ Le.refl hbeg0
    rw [hbad (by rw [hq];simpa using hn)] at z;exact z
   ·l_ints
    refine hK' _ _ (fun _ k=>k (hgood (by rw [hq,Decidable.not_not.mp hn])) _ _)
 ·rintro ρ st' I2
  apply I2;intro hall x y
  l_ints
  refine y8 hu ho fun go st1 l1 n1 hgo=>?_
  have hp1':=l1 _ _ hp1
  have hf1:=l1 _ _ hf
  refine j2 hgo ?_
  refine lp (mv:=fun r:Nat=>MV.int (r:Int)) (fun pre ρ st'=>∀ G:ja->St->Prop,((pre.all (fun r=>(lkN d r).isSome&&decide (pl d r<c))=true)->∀ x y,G [("unit",some (.ref u)),("places",some (.ref p)),("place",x),("register",y)] st1)->G ρ st')
    (fun _ k=>k rfl _ _) (fun pre ρ st' h=>h (fun _ t=>ji _ t) fun _ _ _=>jh (hgo)) ?_ ?_
  ·rintro pre r post eq ρ st2 I1 K' hK'
   apply I1;intro hall2 x y
   have hr:r<U.count:=(YH ho).2 r (by rw [eq];simp)
   have hq:=hd.get hr
   have hbad:¬ pl d r<c->j1 U beg0 d c=false:=fun hne=>by
    unfold j1
    rw [eq,List.all_append,List.all_cons,decide_eq_false hne];simp
   l_ints
   refine Oc (f:=fun p:Nat=>.int (p:Nat)) hf1 ?_
   rw [hq]
   refine Jn ?_
   l_ints
   refine s_d (f:=fun p:Nat=>.int (p:Nat)) (Or.inl hf1) hq ?_
   refine jbQ ?_
   refine uL (fun _=>?_) fun hn=>absurd (Int.natCast_nonneg _) hn
   l_ints
   refine OC ?_
   refine ⟨_,rfl,JV (fun hb=>?_) fun hb=>?_⟩
   ·l_ints
    have z:=hk beg0 _ l1 hbeg0
    rw [hbad (fun hlt=>by rw [decide_eq_true (Int.ofNat_lt.mpr hlt)] at hb;cases hb)] at z;exact z
   ·l_ints
    refine hK' _ _ (fun _ k=>k ?_ _ _)
    have hlt:pl d r<c:=by
     refine Int.ofNat_lt.mp (Classical.byContradiction fun hn=>?_)
     rw [decide_eq_false hn] at hb;cases hb
    rw [List.all_append,hall2,List.all_cons,hq,decide_eq_true hlt];rfl
  ·rintro ρ st2 I1
   apply I1;intro hall2 x y
   l_ints
   refine Y7 (hu.le l1) ho hf1 hd fun beg st3 l3 hbeg=>?_
   have z:=hk beg _ (l1.trans l3) hbeg
   unfold j1 at z
   rw [hall,hall2,Bool.true_and,Bool.true_and] at z
   cases hw:y2 U beg d with
   |none=>rw [hw] at z;exact z
   |some c=>rw [hw] at z;obtain ⟨c1,c2,c3,c4⟩:=c;exact z
theorem xl{α:Type}{p:α->Bool}:∀ {xs:List α}{k:Nat},(((xs.zipIdx k).filter fun q=>p q.1).map (·.2)++[k+xs.length])[0]? = some (k+xs.findIdx p)
 |[],k=>rfl
 |x::xs,k=>by
  rw [List.zipIdx_cons,List.filter_cons,List.findIdx_cons]
  cases h:p x with
  |true=>simp
  |false =>
   have:=xl (p:=p) (xs:=xs) (k:=k+1)
   simp only [cond_false,List.length_cons,Bool.false_eq_true,if_false]
   rw [show k+(xs.length+1)=k+1+xs.length by w_up,this]
   congr 1;w_up
theorem u0{r:Nat}:∀ {os:List Op},UF r os↔os.findIdx (fun o=>decide (r∈o.reads))<os.length/\os.findIdx (fun o=>decide (r∈o.reads))≤os.findIdx (fun o=>decide (r∈o.writes))
 |[]=>by simp [UF]
 |o::os=>by
  have e1:UF r (o::os)=(r∈o.reads\/(r∉o.writes/\UF r os)):=rfl
  rw [e1,u0,List.findIdx_cons,List.findIdx_cons]
  by_cases h1:r∈o.reads<;>by_cases h2:r∈o.writes<;>simp [h1,h2]
theorem Vj{r:Nat}:∀ {os:List Op},Unw r os↔os.findIdx (fun o=>decide (r∈o.writes))=os.length
 |[]=>by simp [Unw]
 |o::os=>by
  have e1:Unw r (o::os)↔r∉o.writes/\Unw r os:=by unfold Unw;exact List.forall_mem_cons
  rw [e1,Vj,List.findIdx_cons]
  by_cases h2:r∈o.writes<;>simp [h2]
def jQ(U:Un)(r i k:Nat):Prop:=∃ B,U.blocks[i]? = some B/\(UF r (B.ops.drop k)\/(Unw r (B.ops.drop k)/\(r∈B.fin.reads\/∃ c∈B.fin.next,r∉U.par c/\Jv U r c)))
theorem liveAt_zero{U:Un}{r i:Nat}:jQ U r i 0↔Jv U r i:=by
 constructor
 ·rintro ⟨B,hB,h | ⟨a,h | ⟨c,b,d,h⟩⟩⟩
  ·exact .use hB h
  ·exact .fin hB a h
  ·exact .edge hB a b d h
 ·intro h
  cases h with
  |use hB h=>exact ⟨_,hB,Or.inl h⟩
  |fin hB a h=>exact ⟨_,hB,Or.inr ⟨a,Or.inl h⟩⟩
  |edge hB a b d h=>exact ⟨_,hB,Or.inr ⟨a,Or.inr ⟨_,b,d,h⟩⟩⟩
def DeadAt(U:Un)(r:Nat)(met:List Nat)(i k:Nat):Prop:=∀ B,U.blocks[i]? = some B->¬ UF r (B.ops.drop k)/\(Unw r (B.ops.drop k)->r∉B.fin.reads/\∀ c∈B.fin.next,r∉U.par c->c∈met)
theorem DeadAt.mono{U:Un}{r i k:Nat}{met met':List Nat}(h:DeadAt U r met i k)(s:∀ c∈met,c∈met'):DeadAt U r met' i k:=fun B hB=>⟨(h B hB).1,fun u=>⟨((h B hB).2 u).1,fun c hc hp=>s c (((h B hB).2 u).2 c hc hp)⟩⟩
structure Dfs(U:Un)(r i0 k0:Nat)(met:List Nat)(ws:List (Nat×Nat))(t:Nat):Prop where
 nd:met.Nodup
 lt:∀ c∈met,c<U.blocks.length
 wlt:∀ w∈ws,w.1<U.blocks.length
 snd:∀ w∈ws,jQ U r w.1 w.2->jQ U r i0 k0
 dead:∀ c∈met,(c,0)∉ws->DeadAt U r met c 0
 start:(i0,k0)∉ws->DeadAt U r met i0 k0
 cnt:ws.length+t=1+met.length
theorem jaR{U:Un}{r i0 k0:Nat}(h:i0<U.blocks.length):Dfs U r i0 k0 [] [(i0,k0)] 0 where
 nd:=List.nodup_nil
 lt:=by simp
 wlt:=fun w hw=>by rw [List.mem_singleton.mp hw];exact h
 snd:=fun w hw=>by rw [List.mem_singleton.mp hw];exact id
 dead:=by simp
 start:=fun h=>absurd (List.mem_singleton.mpr rfl) h
 cnt:=rfl
theorem Ub{U:Un}{r i0 k0:Nat}{met:List Nat}{t:Nat}(h:Dfs U r i0 k0 met [] t):¬ jQ U r i0 k0:=by
 have key:∀ c,Jv U r c->c∉met:=by
  intro c hc
  induction hc with
  |use hB k=>intro hm;exact (h.dead _ hm (by simp) _ hB).1 k
  |fin hB a k=>intro hm;exact ((h.dead _ hm (by simp) _ hB).2 a).1 k
  |edge hB a b d _ ih=>intro hm;exact ih (((h.dead _ hm (by simp) _ hB).2 a).2 _ b d)
 rintro ⟨B,hB,k | ⟨a,k | ⟨c,b,d,k⟩⟩⟩
 ·exact (h.start (by simp) B hB).1 k
 ·exact ((h.start (by simp) B hB).2 a).1 k
 ·exact key c k (((h.start (by simp) B hB).2 a).2 c b d)
theorem GZ{U:Un}{r i0 k0:Nat}{met:List Nat}{ws:List (Nat×Nat)}{t:Nat}(h:Dfs U r i0 k0 met ws t):ws.length+t≤1+U.blocks.length:=by
 have h1:=List.Nodup.length_le_of_subset (l₂:=List.range U.blocks.length) h.nd fun x hx=>List.mem_range.mpr (h.lt x hx)
 rw [List.length_range] at h1
 have:=h.cnt;w_up
structure Mid(U:Un)(r i0 k0 i k:Nat)(met:List Nat)(ws:List (Nat×Nat))(t:Nat)(done:List Nat):Prop where
 nd:met.Nodup
 lt:∀ c∈met,c<U.blocks.length
 wlt:∀ w∈ws,w.1<U.blocks.length
 snd:∀ w∈ws,jQ U r w.1 w.2->jQ U r i0 k0
 src:∀ c,c<U.blocks.length->Jv U r c->r∉U.par c->(∃ B,U.blocks[i]? = some B/\Unw r (B.ops.drop k)/\c∈B.fin.next)->jQ U r i0 k0
 dead:∀ c∈met,(c,0)∉ws->(c,0)=(i,k)\/DeadAt U r met c 0
 start:(i0,k0)∉ws->(i0,k0)=(i,k)\/DeadAt U r met i0 k0
 cnt:ws.length+(t+1)=1+met.length
 dn:∀ c∈done,r∉U.par c->c∈met
theorem oo{U:Un}{r i0 k0 i k:Nat}{met:List Nat}{ws:List (Nat×Nat)}{t:Nat}(h:Dfs U r i0 k0 met (ws++[(i,k)]) t):Mid U r i0 k0 i k met ws t [] where
 nd:=h.nd
 lt:=h.lt
 wlt:=fun w hw=>h.wlt w (by simp [hw])
 snd:=fun w hw=>h.snd w (by simp [hw])
 src:=fun c _ hl hp ⟨B,hB,hu,hc⟩=>h.snd (i,k) (by simp) ⟨B,hB,Or.inr ⟨hu,Or.inr ⟨c,hc,hp,hl⟩⟩⟩
 dead:=fun c hc hn=>by
  by_cases e:(c,0)=(i,k)
  ·exact Or.inl e
  ·exact Or.inr (h.dead c hc (by simp only [List.mem_append,List.mem_singleton,not_or];exact ⟨hn,e⟩))
 start:=fun hn=>by
  by_cases e:(i0,k0)=(i,k)
  ·exact Or.inl e
  ·exact Or.inr (h.start (by simp only [List.mem_append,List.mem_singleton,not_or];exact ⟨hn,e⟩))
 cnt:=by have:=h.cnt;simp only [List.length_append,List.length_singleton] at this;w_up
 dn:=by simp
set_option tactic.hygienic true in
theorem jaF{U:Un}{r i0 k0 i k c:Nat}{met done:List Nat}{ws:List (Nat×Nat)}{t:Nat}(h:Mid U r i0 k0 i k met ws t done)(hc:c<U.blocks.length)(hm:c∉met)(hp:r∉U.par c)
  (he:∃ B,U.blocks[i]? = some B/\Unw r (B.ops.drop k)/\c∈B.fin.next):Mid U r i0 k0 i k (met++[c]) (ws++[(c,0)]) t (done++[c]) where
 nd:=List.nodup_append.mpr ⟨h.nd,by simp,fun a ha b hb e=>hm (by rw [← List.mem_singleton.mp hb,← e];exact ha)⟩
 lt:=fun x hx=>by
  rcases List.mem_append.mp hx with hx | hx
  ·exact h.lt x hx
  ·rw [List.mem_singleton.mp hx];exact hc
 wlt:=fun x hx=>by
  rcases List.mem_append.mp hx with hx | hx
  ·exact h.wlt x hx
  ·rw [List.mem_singleton.mp hx];exact hc
 snd:=fun x hx hl=>by
  rcases List.mem_append.mp hx with hx | hx
  ·exact h.snd x hx hl
  ·rw [List.mem_singleton.mp hx] at hl
   exact h.src c hc (liveAt_zero.mp hl) hp he
 src:=h.src
 dead:=fun x hx hn=>by
  simp only [List.mem_append,List.mem_singleton,not_or,Prod.mk.injEq,and_true] at hx hn
  rcases hx with hx | hx
  ·exact (h.dead x hx hn.1).imp id fun y=>y.mono fun z hz=>List.mem_append_left _ hz
  ·exact absurd hx hn.2
 start:=fun hn=>by
  simp only [List.mem_append,not_or] at hn
  exact (h.start hn.1).imp id fun y=>y.mono fun z hz=>List.mem_append_left _ hz
 cnt:=by have:=h.cnt;simp only [List.length_append,List.length_singleton];w_up
 dn:=fun x hx hp=>by
  rcases List.mem_append.mp hx with hx | hx
  ·exact List.mem_append_left _ (h.dn x hx hp)
  ·exact List.mem_append_right _ hx
theorem O9{U:Un}{r i0 k0 i k c:Nat}{met done:List Nat}{ws:List (Nat×Nat)}{t:Nat}(h:Mid U r i0 k0 i k met ws t done)(hm:¬ (c∉met/\r∉U.par c)):Mid U r i0 k0 i k met ws t (done++[c]) :=
 ⟨h.nd,h.lt,h.wlt,h.snd,h.src,h.dead,h.start,h.cnt,fun x hx hp=>by
  rcases List.mem_append.mp hx with hx | hx
  ·exact h.dn x hx hp
  ·rw [List.mem_singleton.mp hx] at hp ⊢
   exact Classical.byContradiction fun hn=>hm ⟨hn,hp⟩⟩
set_option tactic.hygienic true in
theorem u6{U:Un}{r i0 k0 i k:Nat}{met done:List Nat}{ws:List (Nat×Nat)}{t:Nat}{B:Bk}(h:Mid U r i0 k0 i k met ws t done)(hB:U.blocks[i]? = some B)(hu:¬ UF r (B.ops.drop k))
  (hw:Unw r (B.ops.drop k)->r∉B.fin.reads/\done=B.fin.next):Dfs U r i0 k0 met ws (t+1):=by
 have hd:DeadAt U r met i k:=fun B' hB'=>by
  rw [hB] at hB';cases hB'
  exact ⟨hu,fun u=>⟨(hw u).1,fun c hc hp=>h.dn c (by rw [(hw u).2];exact hc) hp⟩⟩
 refine ⟨h.nd,h.lt,h.wlt,h.snd,fun c hc hn=>?_,fun hn=>?_,h.cnt⟩
 ·rcases h.dead c hc hn with e | e
  ·simp only [Prod.mk.injEq] at e;rw [e.1,e.2];exact hd
  ·exact e
 ·rcases h.start hn with e | e
  ·simp only [Prod.mk.injEq] at e;rw [e.1,e.2];exact hd
  ·exact e
structure WsAt(st:St)(m w:Nat)(rs:List Nat)(ws:List (Nat×Nat)):Prop where
 main:st w=some (.list (rs.map .ref))
 len:rs.length=ws.length
 off:∀ r∈rs,r≠m/\r≠w
 each:∀ (i r:Nat) (p:Nat×Nat),rs[i]? = some r->ws[i]? = some p->st r=some (.list (jc [p.1,p.2]))
theorem WsAt.le{st st':St}{m w:Nat}{rs:List Nat}{ws:List (Nat×Nat)}(h:WsAt st m w rs ws)(l:Le st st'):WsAt st' m w rs ws :=
 ⟨l _ _ h.main,h.len,h.off,fun i r p a b=>l _ _ (h.each i r p a b)⟩
theorem WsAt.lxm{st st':St}{m w:Nat}{rs:List Nat}{ws:List (Nat×Nat)}(h:WsAt st m w rs ws)(l:Lx [m] st st')(n:w≠m):WsAt st' m w rs ws :=
 ⟨lxg l n h.main,h.len,h.off,fun i r p a b=>lxg l (h.off r (List.mem_of_getElem? a)).1 (h.each i r p a b)⟩
set_option tactic.hygienic true in
theorem WsAt.push{st st':St}{m w q a b:Nat}{rs:List Nat}{ws:List (Nat×Nat)}(h:WsAt st m w rs ws)(l:Lx [w] st st')(hq:st q=some (.list (jc [a,b])))(hm:q≠m)(hw:q≠w)
  (hx:st' w=some (.list (rs.map MV.ref++[.ref q]))):WsAt st' m w (rs++[q]) (ws++[(a,b)]) :=
 ⟨by rw [hx,List.map_append];rfl,by simp [h.len],fun r hr=>by
  rcases List.mem_append.mp hr with hr | hr
  ·exact h.off r hr
  ·rw [List.mem_singleton.mp hr];exact ⟨hm,hw⟩,fun i r p x y=>by
  rw [List.getElem?_append] at x y
  rw [h.len] at x
  split at x
  ·rename_i hi
   rw [if_pos hi] at y
   exact lxg l (h.off r (List.mem_of_getElem? x)).2 (h.each i r p x y)
  ·rename_i hi
   rw [if_neg hi] at y
   cases hj:i - ws.length with
   |zero =>
    rw [hj] at x y
    simp only [List.getElem?_cons_zero,Option.some.injEq] at x y
    subst x;subst y
    exact lxg l hw hq
   |succ j=>rw [hj] at x;simp at x⟩
theorem WsAt.pop{st st':St}{m w i k:Nat}{rs:List Nat}{ws:List (Nat×Nat)}(h:WsAt st m w rs (ws++[(i,k)])):∃ rs' q,rs=rs'++[q]/\st w=some (.list (rs'.map MV.ref++[.ref q]))/\st q=some (.list (jc [i,k]))/\q≠w /\
  ∀ st',Lx [w] st st'->st' w=some (.list (rs'.map MV.ref))->WsAt st' m w rs' ws:=by
 have hne:rs≠[]:=by intro e;have:=h.len;rw [e] at this;simp at this
 obtain ⟨rs',q,rfl⟩:=Yl hne
 have hl:rs'.length=ws.length:=by have:=h.len;simp only [List.length_append,List.length_singleton] at this;w_up
 refine ⟨rs',q,rfl,by rw [h.main,List.map_append];rfl,h.each rs'.length q (i,k) (by simp) (by rw [hl];simp),(h.off q (by simp)).2,fun st' l hx=>⟨hx,hl,fun r hr=>h.off r (by simp [hr]),fun j r p x y=>?_⟩⟩
 have hj:j<rs'.length:=(List.getElem?_eq_some_iff.mp x).1
 exact lxg l (h.off r (by simp [List.mem_of_getElem? x])).2 (h.each j r p (by rw [List.getElem?_append_left hj];exact x) (by rw [List.getElem?_append_left (by w_up)];exact y))
theorem ql{C:jt}{r:ME}{ρ:ja}{st:St}{K:MV->St->Prop}{x:Bool}(y:Bool)(hr:x=true->∀ K':MV->St->Prop,K' (.bool y) st->wpE C r ρ st K')(k:K (.bool (x&&y)) st) :
  ∃ b,MV.bool x=.bool b/\ifb b (wpE C r ρ st K) (K (.bool false) st) :=
 ⟨x,rfl,jcW (fun h=>hr h K (by rw [h,Bool.true_and] at k;exact k)) fun h=>by rw [h,Bool.false_and] at k;exact k⟩
set_option tactic.hygienic true in
theorem oh{n b i:Nat}{E:En}{d p o:Nat}{ρ:ja}{st:St}{K:MV->St->Prop}(hv:lk ρ "own" = some (.ref b))
  (hb:st b=some (.inst "LowBlock" d [("number",.int (i:Nat)),("params",.ref p),("ops",.ref o),("end",E.mv)])) (hk:Ret st (.list (jc E.next)) K) :
  wpE (Cl n) (.ite (.cmp .eq (.sub (.attr (.var "own") "end") (.int 0)) (.str "goto")) (.list [(.sub (.attr (.var "own") "end") (.int 1))]) (.ite (.cmp .eq (.sub (.attr (.var "own") "end") (.int 0)) (.str "branch")) (.mklist (.of (.sfrom (.attr (.var "own") "end") (.int 2)))) (.list []))) ρ st K:=by
 cases E
 case branch t c d =>
  unfold En.mv at hb
  repeat (first | leaf_len | refine ya hv ?_)
  exact ⟨by decide,Or.inl ⟨_,rfl,by simp,ItemsR.tup ⟨show 2<jb by decide,al hk⟩⟩⟩
 all_goals
  unfold En.mv at hb
  repeat (first | leaf_len | refine ya hv ?_)
  exact hk
theorem XO{n u r i0 k0:Nat}{U:Un}{st:St}{K:MV->St->Prop}(hu:UnAt st u U)(ho:jy U)(hi:i0<U.blocks.length)(hk0:k0<100000)
  (hk:∀ b st',Le st st'->(b=true↔jQ U r i0 k0)->K (.bool b) st'):Cl (n+3) "_law_lives" [.ref u,.int r,.int i0,.int k0] st K:=by
 refine jr (fn:=fn_law_lives) (by decide) rfl rfl ?_
 unfold fn_law_lives
 one_place
 obtain ⟨d,e,bl,qs,h1,h2,h3,h4,h5⟩:=hu.qs
 have hnb:=ho.nb
 l_ints
 intro m st1 l1 n1 hm
 l_ints
 intro q st2 l2 n2 hq
 l_ints
 intro w st3 l3 n3 hw
 have l12:=l1.trans l2
 have l123:=l12.trans l3
 have hqw:q≠w:=jw n3 hq
 have hqm:q≠m:=(jw n2 hm).symm
 have hwm:w≠m:=(jw n3 (l2 _ _ hm)).symm
 have hm3:=l3 _ _ (l2 _ _ hm)
 have n0w:=l12.back n3
 l_ints
 refine Qy rfl ?_
 have h1':=l123 _ _ h1
 have h3':=l123 _ _ h3
 l_ints
 refine Jq h3' ?_
 l_ints
 have hql:qs.length=U.blocks.length:=zp h4
 refine ⟨⟨Int.natCast_nonneg _,?_⟩,?_⟩
 ·rw [List.length_map,hql];exact Int.ofNat_lt.mpr (by unfold jb;w_up)
 rw [Int.toNat_natCast,List.length_map,hql]
 refine lp (mv:=fun i:Nat=>MV.int (i:Int)) (fun pre ρ st'=>∀ G:ja->St->Prop,(Le st st'->∀ met ws rs,Dfs U r i0 k0 met ws pre.length->st' m=some (.list (jc met))->WsAt st' m w rs ws->(∀ p∈ws,p.2<100000)->∀ a b c x1 x2 x3 x4 x5 x6,G [("unit",some (.ref u)),("register",some (.int (r:Nat))),("number",a),("at",b),("met",some (.ref m)),("waiting",some (.ref w)),("turn",c),("own",x1),("ops",x2),("reads",x3),("gives",x4),("later",x5),("target",x6)] st')->G ρ st')
   (fun _ k=>k l123 [] [(i0,k0)] [q] (jaR hi) hm3 ⟨hw,rfl,fun r hr=>by rw [List.mem_singleton.mp hr];exact ⟨hqm,hqw⟩,fun i r p x y=>by
   cases i with
   |zero=>simp only [List.getElem?_cons_zero,Option.some.injEq] at x y;subst x;subst y;exact l3 _ _ hq
   |succ i=>simp at x⟩ (fun p hp=>by rw [List.mem_singleton.mp hp];exact hk0) _ _ _ _ _ _ _ _ _) (fun _ _ _ _=>jH) ?_ ?_
 ·rintro pre turn post eq ρ st4 I2 K' hK'
  apply I2;intro l4 met ws rs hD hm4 hws hk4 a b c x1 x2 x3 x4 x5 x6
  have hprl:pre.length≤U.blocks.length:=by
   have:=congrArg List.length eq
   rw [List.length_range,List.length_append,List.length_cons] at this;w_up
  l_ints
  intro z5 st5 l5 n5 hz5
  refine jde (l5 _ _ hws.main) hz5 ?_
  have hle:(rs.map MV.ref).isEmpty=ws.isEmpty:=by
   have:=hws.len
   cases rs<;>cases ws<;>simp_all
  rw [hle]
  refine JV (fun hb=>?_) fun hb=>?_
  ·have hwe:ws=[]:=by cases ws with
    |nil=>rfl
    |cons x y=>cases hb
   subst hwe
   l_ints
   exact hk false _ (l4.trans l5) ⟨fun h=>(by cases h),fun h=>absurd h (Ub hD)⟩
  ·have hwe:ws≠[]:=by intro e;subst e;cases hb
   obtain ⟨ws',⟨i,k⟩,rfl⟩:=Yl hwe
   have hk1:k<100000:=hk4 (i,k) (by simp)
   obtain ⟨rs',q',hrs,hw5,hq5,hqw5,hpop⟩:=(hws.le l5).pop (st':=st5)
   have hilt:=hD.wlt (i,k) (by simp)
   have hmid:=oo hD
   have hlen:=GZ hD
   obtain ⟨b',B,hB,hqs⟩:=Z1 h4 hilt
   have hBok:=ho.blk B (List.mem_of_getElem? hB)
   obtain ⟨db,pb,ob,hb1,hb2,hb3⟩:=h5 _ (List.mem_of_getElem? hqs)
   simp only at hb1 hb2 hb3
   l_ints
   refine ⟨jac hw5,?_⟩
   l_ints
   refine Ow hw5 fun st6 l6 hw6=>?_
   have hws6:=hpop st6 l6 hw6
   have hq6:=lxg l6 hqw5 hq5
   have L6:Le st st6:=(l4.trans l5).lx n0w l6
   have hm6:=lxg l6 hwm.symm (l5 _ _ hm4)
   have h1'':=L6 _ _ h1
   have h3'':=L6 _ _ h3
   have hb1':=L6 _ _ hb1
   have hb3':=L6 _ _ hb3
   l_ints
   refine jgY (xs:=[.int (i:Nat),.int (k:Nat)]) hq6 rfl ?_
   l_ints
   refine s_l (v:=.ref b') h3'' (by rw [List.getElem?_map,hqs];rfl) ?_
   l_ints
   refine ⟨⟨Int.natCast_nonneg _,by unfold jP;w_up⟩,Or.inr ⟨_,_,rfl,hb3',al fun os st7 l7 n7 hos=>?_⟩⟩
   rw [Int.toNat_natCast,← List.map_drop] at hos
   have L7:=L6.trans l7
   have hodl:(B.ops.drop k).length<1000:=by rw [List.length_drop];have:=hBok.opsl;w_up
   have hoo:∀ o∈B.ops.drop k,qm U.count o:=fun o ho=>hBok.ops o (List.mem_of_mem_drop ho)
   generalize hops:B.ops.drop k=ops at *
   l_ints
   refine ⟨os,_,rfl,hos,?_⟩
   rw [JX]
   refine cp (mv:=fun p:Op×Nat=>MV.tup [.int (p.2:Nat),p.1.mv]) (fun _ st'=>Le st7 st') (fun x=>if decide (r∈x.1.reads) then some (.int (x.2:Int)) else none) Le.refl (fun _ st' l=>jh (l _ _ hos)) ?_ ?_
   ·rintro pre1 ⟨o1,k1⟩ post1 e1 st' le K1 hK1
    have hoo1:=hoo o1 (List.mem_of_getElem? (List.mk_mem_zipIdx_iff_getElem?.mp (show (o1,k1)∈ops.zipIdx by rw [e1];simp)))
    refine uW rfl ?_
    l_ints
    refine JJ (Nat.lt_trans hoo1.2.2.1 (by decide)) (Nat.lt_trans hoo1.2.2.2 (by decide)) fun o st8 l8 n8 h8=>?_
    refine Vf h8 (yQ (fun hn=>?_) fun hn=>?_)
    ·l_ints
     have z:=hK1 _ (le.trans l8)
     rw [if_pos (decide_eq_true hn)] at z;exact z
    ·have z:=hK1 _ (le.trans l8)
     rw [if_neg (by simpa using hn)] at z;exact z
   rintro st8 l8
   have hzl:∀ p:Op×Nat->Bool,((ops.zipIdx.filter p).map (·.2)).length≤ops.length:=fun p=>by
    rw [List.length_map]
    exact Nat.le_trans (List.length_filter_le ..) (by rw [List.length_zipIdx];exact Nat.le_refl _)
   refine YD (qh (f:=fun x:Op×Nat=>x.2) (p:=fun x:Op×Nat=>decide (r∈x.1.reads))) (Nat.lt_of_le_of_lt (hzl _) (by unfold jb;w_up)) fun rd0 st9 l9 n9 hrd0=>?_
   have hos9:=l9 _ _ (l8 _ _ hos)
   l_ints
   refine Jq hos9 ?_
   l_ints
   intro rd1 st10 l10 n10 hrd1
   refine xx (l10 _ _ hrd0) hrd1 (by rw [je];have:=hzl (fun x:Op×Nat=>decide (r∈x.1.reads));simp only [List.length_singleton];unfold jb;w_up) fun rd st11 l11 n11 hrd=>?_
   have l7_11:=l8.trans (l9.trans (l10.trans l11))
   have hos11:=l7_11 _ _ hos
   rw [List.length_map] at hrd
   l_ints
   refine ⟨os,_,rfl,hos11,?_⟩
   rw [JX]
   refine cp (mv:=fun p:Op×Nat=>MV.tup [.int (p.2:Nat),p.1.mv]) (fun _ st'=>Le st11 st') (fun x=>if decide (r∈x.1.writes) then some (.int (x.2:Int)) else none) Le.refl (fun _ st' l=>jh (l _ _ hos11)) ?_ ?_
   ·rintro pre1 ⟨o1,k1⟩ post1 e1 st' le K1 hK1
    have hoo1:=hoo o1 (List.mem_of_getElem? (List.mk_mem_zipIdx_iff_getElem?.mp (show (o1,k1)∈ops.zipIdx by rw [e1];simp)))
    refine uW rfl ?_
    l_ints
    refine yU (Nat.lt_trans hoo1.2.2.2 (by decide)) fun o st8 l8 n8 h8=>?_
    refine Vf h8 (yQ (fun hn=>?_) fun hn=>?_)
    ·l_ints
     have z:=hK1 _ (le.trans l8)
     rw [if_pos (decide_eq_true hn)] at z;exact z
    ·have z:=hK1 _ (le.trans l8)
     rw [if_neg (by simpa using hn)] at z;exact z
   rintro st12 l12
   refine YD (qh (f:=fun x:Op×Nat=>x.2) (p:=fun x:Op×Nat=>decide (r∈x.1.writes))) (Nat.lt_of_le_of_lt (hzl _) (by unfold jb;w_up)) fun gv0 st13 l13 n13 hgv0=>?_
   have hos13:=l13 _ _ (l12 _ _ hos11)
   l_ints
   refine Jq hos13 ?_
   l_ints
   intro gv1 st14 l14 n14 hgv1
   refine xx (l14 _ _ hgv0) hgv1 (by rw [je];have:=hzl (fun x:Op×Nat=>decide (r∈x.1.writes));simp only [List.length_singleton];unfold jb;w_up) fun gv st15 l15 n15 hgv=>?_
   rw [List.length_map] at hgv
   have l11_15:=l12.trans (l13.trans (l14.trans l15))
   have l7_15:=l7_11.trans l11_15
   have hos15:=l7_15 _ _ hos
   have hrd15:=l11_15 _ _ hrd
   have L15:=L7.trans l7_15
   have l6_15:=l7.trans l7_15
   have hrdf:(jc ((ops.zipIdx.filter fun x:Op×Nat=>decide (r∈x.1.reads)).map (·.2))++[MV.int ((ops.length:Nat):Int)])[0]? = some (.int ((ops.findIdx (fun o=>decide (r∈o.reads)):Nat):Int)):=by
    have:=xl (p:=fun o:Op=>decide (r∈o.reads)) (xs:=ops) (k:=0)
    rw [Nat.zero_add,Nat.zero_add] at this
    have h9:=j9 this
    rw [← js] at h9;exact h9
   have hgvf:(jc ((ops.zipIdx.filter fun x:Op×Nat=>decide (r∈x.1.writes)).map (·.2))++[MV.int ((ops.length:Nat):Int)])[0]? = some (.int ((ops.findIdx (fun o=>decide (r∈o.writes)):Nat):Int)):=by
    have:=xl (p:=fun o:Op=>decide (r∈o.writes)) (xs:=ops) (k:=0)
    rw [Nat.zero_add,Nat.zero_add] at this
    have h9:=j9 this
    rw [← js] at h9;exact h9
   have huf:=u0 (r:=r) (os:=ops)
   have hunw:=Vj (r:=r) (os:=ops)
   have hsrc:=hD.snd (i,k) (by simp)
   generalize hR:ops.findIdx (fun o=>decide (r∈o.reads))=R at *
   generalize hG:ops.findIdx (fun o=>decide (r∈o.writes))=G at *
   have hb1'':=L15 _ _ hb1
   l_ints
   refine zl hrd15 hrdf ?_
   l_ints
   refine Jq hos15 ?_
   rw [List.length_map]
   refine OC ?_
   refine ql (decide ((R:Int)≤(G:Int))) (fun _ K2 hK2=>?_) ?_
   ·l_ints
    refine zl hrd15 hrdf ?_
    l_ints
    exact zl hgv hgvf (jbQ hK2)
   have hufd:(decide ((R:Int)<((ops.length:Nat):Int))&&decide ((R:Int)≤(G:Int)))=true↔UF r ops:=by
    rw [huf,Bool.and_eq_true,decide_eq_true_eq,decide_eq_true_eq,Int.ofNat_lt,Int.ofNat_le]
   refine JV (fun hc=>?_) fun hc=>?_
   ·l_ints
    exact hk true _ L15 ⟨fun _=>hsrc ⟨B,hB,Or.inl (by rw [hops];exact hufd.mp hc)⟩,fun _=>rfl⟩
   have hnuf:¬ UF r ops:=fun h=>by rw [hufd.mpr h] at hc;cases hc
   have hm15:=l6_15 _ _ hm6
   have hws15:=hws6.le l6_15
   l_ints
   refine zl hgv hgvf ?_
   l_ints
   refine Jq hos15 ?_
   rw [List.length_map]
   refine GY (yQ (fun hgl=>?_) fun hgl=>?_)
   ·have hun:Unw r ops:=hunw.mpr hgl
    l_ints
    refine zi hBok.finl fun er st16 l16 n16 her=>?_
    refine Vf her (yQ (fun hin=>?_) fun hin=>?_)
    ·l_ints
     exact hk true _ (L15.trans l16) ⟨fun _=>hsrc ⟨B,hB,Or.inr ⟨by rw [hops];exact hun,Or.inl hin⟩⟩,fun _=>rfl⟩
    have L16:=L15.trans l16
    have hb1x:=L16 _ _ hb1
    refine j6 (jm (yE (oh (by rfl) hb1x fun lt st17 l17 n17 hlt=>?_)))
    have L17:=L16.trans l17
    have hm17:=l17 _ _ (l16 _ _ hm15)
    have hws17:=(hws15.le l16).le l17
    have hltm:=(jw n17 (l16 _ _ hm15)).symm
    have hltw:=(jw n17 (hws15.le l16).main).symm
    have hwm':=hwm
    have hk5:∀ p∈ws',p.2<100000:=fun p hp=>hk4 p (by simp [hp])
    l_ints
    refine lp (mv:=fun i:Nat=>MV.int (i:Int)) (fun pr ρ st'=>∀ G:ja->St->Prop,(Le st st'->st' lt=some (.list (jc B.fin.next))->∀ met ws rs,Mid U r i0 k0 i k met ws pre.length pr->st' m=some (.list (jc met))->WsAt st' m w rs ws->(∀ p∈ws,p.2<100000)->∀ x6,G [("unit",some (.ref u)),("register",some (.int (r:Nat))),("number",some (.int (i:Nat))),("at",some (.int (k:Nat))),("met",some (.ref m)),("waiting",some (.ref w)),("turn",some (.int (turn:Nat))),("own",some (.ref b')),("ops",some (.ref os)),("reads",some (.ref rd)),("gives",some (.ref gv)),("later",some (.ref lt)),("target",x6)] st')->G ρ st')
      (fun _ k=>k L17 hlt met ws' rs' hmid hm17 hws17 hk5 _) (fun pr ρ st' h=>h (fun _ t=>ji _ t) fun _ n1 _ _ _ _ _ _ _ _=>jh n1) ?_ ?_
    ·rintro pr c ps ec ρ st18 I1 K1 hK1
     apply I1;intro l18 hlt18 met1 ws1 rs1 hM hm18 hws18 hk18 x6
     have hc:=hBok.next c (by rw [ec];simp)
     have hedge:∃ B,U.blocks[i]? = some B/\Unw r (B.ops.drop k)/\c∈B.fin.next:=⟨B,hB,by rw [hops];exact hun,by rw [ec];simp⟩
     obtain ⟨bc,Bc,hBc,hqc⟩:=Z1 h4 hc
     obtain ⟨dc,pc,oc,hc1,hc2,hc3⟩:=h5 _ (List.mem_of_getElem? hqc)
     simp only at hc1 hc2 hc3
     have hpar:U.par c=Bc.params:=by unfold Un.par;rw [hBc];rfl
     have h1c:=l18 _ _ h1
     have h3c:=l18 _ _ h3
     have hc1':=l18 _ _ hc1
     have hc2':=l18 _ _ hc2
     have hml:met1.length≤100:=by
      have:=List.Nodup.length_le_of_subset (l₂:=List.range U.blocks.length) hM.nd fun x hx=>List.mem_range.mpr (hM.lt x hx)
      rw [List.length_range] at this;w_up
     l_ints
     refine YZ hm18 ?_
     refine ql (decide (r∉U.par c)) (fun _ K2 hK2=>?_) ?_
     ·l_ints
      refine s_l (v:=.ref bc) h3c (by rw [List.getElem?_map,hqc];rfl) ?_
      l_ints
      refine YZ hc2' ?_
      rw [← hpar];exact hK2
     refine JV (fun hcond=>?_) fun hcond=>?_
     ·rw [Bool.and_eq_true,decide_eq_true_eq,decide_eq_true_eq] at hcond
      l_ints
      refine ⟨jJ hm18,?_⟩
      l_ints
      refine jI hm18 hm18 (by rw [je];unfold jb;w_up) fun st19 l19 hm19=>⟨rfl,?_⟩
      have hm19:st19 m=some (.list (jc (met1++[c]))):=by rw [hm19,← js];rfl
      have hws19:=hws18.lxm l19 hwm
      have hlt19:=lxg l19 hltm hlt18
      have L19:=l18.lx n1 l19
      have hwl:ws1.length≤200:=by have:=hM.cnt;w_up
      l_ints
      refine ⟨jJ hws19.main,?_⟩
      l_ints
      intro np st20 l20 n20 hnp
      have hws20:=hws19.le l20
      have npm:=(jw n20 hm19).symm
      have npw:=(jw n20 hws19.main).symm
      l_ints
      refine jI hws19.main hws20.main (by rw [List.length_map,hws20.len];unfold jb;w_up) fun st21 l21 hw21=>⟨rfl,?_⟩
      l_ints
      refine hK1 _ _ (fun _ k=>k ((L19.trans l20).lx n0w l21) (lxg l21 hltw (l20 _ _ hlt19)) (met1++[c]) (ws1++[(c,0)]) (rs1++[np]) (jaF hM hc hcond.1 hcond.2 hedge) (lxg l21 hwm.symm (l20 _ _ hm19)) (hws20.push l21 hnp npm npw hw21) (fun p hp=>?_) _)
      rcases List.mem_append.mp hp with hp | hp
      ·exact hk18 p hp
      ·rw [List.mem_singleton.mp hp];exact Nat.zero_lt_succ _
     ·l_ints
      refine hK1 _ _ (fun _ k=>k l18 hlt18 met1 ws1 rs1 (O9 hM fun h=>?_) hm18 hws18 hk18 _)
      rw [decide_eq_true h.1,decide_eq_true h.2] at hcond;cases hcond
    ·rintro ρ st18 I1
     apply I1;intro l18 hlt18 met1 ws1 rs1 hM hm18 hws18 hk18 x6
     l_ints
     refine hK' _ _ (fun _ k=>k l18 met1 ws1 rs1 ?_ hm18 hws18 hk18 _ _ _ _ _ _ _ _ _)
     rw [List.length_append,List.length_singleton]
     exact u6 hM hB (by rw [hops];exact hnuf) fun _=>⟨hin,rfl⟩
   ·have hnun:¬ Unw r ops:=fun h=>hgl (hunw.mp h)
    l_ints
    refine hK' _ _ (fun _ k=>k L15 met ws' rs' ?_ hm15 hws15 (fun p hp=>hk4 p (by simp [hp])) _ _ _ _ _ _ _ _ _)
    rw [List.length_append,List.length_singleton]
    exact u6 hmid hB (by rw [hops];exact hnuf) fun h=>absurd (by rw [hops] at h;exact h) hnun
 ·rintro ρ st4 I2
  apply I2;intro l4 met ws rs hD hm4 hws hk4 a b c x1 x2 x3 x4 x5 x6
  have hwe:ws=[]:=by
   have:=GZ hD
   rw [List.length_range] at this
   exact List.length_eq_zero_iff.mp (by w_up)
  subst hwe
  l_ints
  exact hk false _ l4 ⟨fun h=>(by cases h),fun h=>absurd h (Ub hD)⟩
theorem jdv{N r:Nat}:∀ {os:List Op},(∀ o∈os,qm N o)->UF r os->r<N
 |[],_,h=>h.elim
 |o::os,ho,h=>by
  rcases h with h | ⟨_,h⟩
  ·exact (ho o (List.mem_cons_self ..)).1 r h
  ·exact jdv (os:=os) (fun o h=>ho o (List.mem_cons_of_mem _ h)) h
theorem oQ{U:Un}(ho:jy U){r i:Nat}(h:Jv U r i):r<U.count:=by
 induction h with
 |use hB k=>exact jdv (ho.blk _ (List.mem_of_getElem? hB)).ops k
 |fin hB a k=>exact (ho.blk _ (List.mem_of_getElem? hB)).fin _ k
 |edge hB a b d _ ih=>exact ih
open Classical in
theorem gw{U:Un}(ho:jy U):∃ beg,yg U beg:=by
 refine ⟨(List.range U.blocks.length).map fun i=>jg ((List.range U.count).filter fun r=>decide (Jv U r i)),by simp,?_,?_⟩
 ·intro m hm
  obtain ⟨i,_,rfl⟩:=List.mem_map.mp hm
  exact j0 fun r hr=>List.mem_range.mp (List.mem_filter.mp hr).1
 ·intro i r hi
  rw [List.getElem?_map,List.getElem?_range hi]
  simp only [Option.map_some,Option.getD_some]
  rw [maskOf_bit,List.mem_filter,List.mem_range]
  simp only [decide_eq_true_eq]
  exact ⟨fun h=>h.2,fun h=>⟨oQ ho h,h⟩⟩
structure Rt where
 num:Nat
 pos:Int
 given:List Nat
 i:Nat
 k:Nat
 op:Option Op
noncomputable def U3(i:Nat)(p:Op×Nat):Rt:=⟨i,(p.2:Nat),p.1.writes,i,p.2+1,some p.1⟩
noncomputable def xn(q:Bk×Nat):List Rt:=⟨q.2,-1,q.1.params,q.2,0,none⟩::q.1.ops.zipIdx.map (U3 q.2)
noncomputable def xa(U:Un):List Rt:=⟨0,-1,U.entry,0,0,none⟩::U.blocks.zipIdx.flatMap xn
noncomputable def Un.bk(U:Un)(i:Nat):Bk:=(U.blocks[i]?).getD ⟨[],[],.give 0 []⟩
noncomputable def Rt.tm(U:Un)(beg:List Nat)(t:Rt):Tm:=⟨t.num,t.pos,t.given,match t.op with
 |none=>jg t.given ||| (beg[t.i]?).getD 0
 |some _=>((jj U (U.bk t.i) beg)[t.k - 1]?).getD 0 ||| jg t.given,t.op⟩
theorem Qg{U:Un}{beg:List Nat}:tms U beg=(xa U).map (Rt.tm U beg):=by
 unfold tms xa
 rw [List.map_cons]
 congr 1
 rw [List.map_flatMap]
 have:∀ q∈U.blocks.zipIdx,jY U beg q=(xn q).map (Rt.tm U beg):=by
  rintro ⟨B,i⟩ hq
  have hB:U.blocks[i]? = some B:=List.mk_mem_zipIdx_iff_getElem?.mp hq
  have hbk:U.bk i=B:=by unfold Un.bk;rw [hB];rfl
  unfold jY xn
  rw [List.map_cons]
  congr 1
  rw [List.map_map]
  refine List.ext_getElem? fun j=>?_
  rw [List.getElem?_map,List.getElem?_map,List.getElem?_zipIdx,List.getElem?_zipIdx]
  cases ho:B.ops[j]? with
  |none =>
   have:(B.ops.zip (jj U B beg))[j]? = none:=by
    rw [List.getElem?_eq_none_iff] at ho ⊢
    rw [List.length_zip];exact Nat.le_trans (Nat.min_le_left ..) ho
   rw [this];rfl
  |some o =>
   have hj:j<B.ops.length:=(List.getElem?_eq_some_iff.mp ho).1
   have hlb:(jj U B beg).length=B.ops.length:=x9
   have hm:(jj U B beg)[j]? = some ((jj U B beg)[j]'(by rw [hlb];exact hj)):=List.getElem?_eq_getElem _
   have hz:(B.ops.zip (jj U B beg))[j]? = some (o,(jj U B beg)[j]'(by rw [hlb];exact hj)):=List.getElem?_zip_eq_some.mpr ⟨ho,hm⟩
   rw [hz]
   simp only [Option.map_some,Nat.zero_add,Function.comp]
   unfold X7 U3 Rt.tm
   simp only [Nat.add_sub_cancel,hbk,hm,Option.getD_some]
 unfold List.flatMap
 rw [List.map_congr_left this]
theorem Xz{m:Nat}:∀ {os:List Op}{k:Nat},k<os.length->(Yg m os)[k]? = some ((os.drop (k+1)).foldr yh m)
 |[],k,h=>by simp at h
 |o::os,0,_=>rfl
 |o::os,k+1,h=>by
  rw [Yb,List.getElem?_cons_succ,Xz (by simpa using h),List.drop_succ_cons]
set_option tactic.hygienic true in
theorem ZS{U:Un}{beg:List Nat}(ho:jy U)(hb:yg U beg){t:Rt}(ht:t∈xa U){r:Nat}:(t.tm U beg).all.testBit r=true↔r∈t.given\/jQ U r t.i t.k:=by
 have hbeg:∀ i,i<U.blocks.length->(((beg[i]?).getD 0).testBit r=true↔jQ U r i 0):=fun i hi=>by rw [liveAt_zero];exact hb.bit i r hi
 unfold xa at ht
 rcases List.mem_cons.mp ht with rfl | ht
 ·show (jg U.entry ||| (beg[0]?).getD 0).testBit r=true↔_
  rw [Nat.testBit_or,Bool.or_eq_true,maskOf_bit,hbeg 0 ho.pos]
 ·obtain ⟨⟨B,i⟩,hq,ht⟩:=List.mem_flatMap.mp ht
  have hB:U.blocks[i]? = some B:=List.mk_mem_zipIdx_iff_getElem?.mp hq
  have hi:i<U.blocks.length:=(List.getElem?_eq_some_iff.mp hB).1
  have hBok:=ho.blk B (List.mem_of_getElem? hB)
  unfold xn at ht
  rcases List.mem_cons.mp ht with rfl | ht
  ·show (jg B.params ||| (beg[i]?).getD 0).testBit r=true↔_
   rw [Nat.testBit_or,Bool.or_eq_true,maskOf_bit,hbeg i hi]
  ·obtain ⟨⟨o,k⟩,hp,rfl⟩:=List.mem_map.mp ht
   have hk:k<B.ops.length:=(List.getElem?_eq_some_iff.mp (List.mk_mem_zipIdx_iff_getElem?.mp hp)).1
   have hbk:U.bk i=B:=by unfold Un.bk;rw [hB];rfl
   show (((jj U (U.bk i) beg)[k+1 - 1]?).getD 0 ||| jg o.writes).testBit r=true↔r∈o.writes\/jQ U r i (k+1)
   rw [hbk,Nat.add_sub_cancel]
   unfold jj
   rw [Xz hk,Option.getD_some,Nat.testBit_or,Bool.or_eq_true,maskOf_bit,qt,liveEnd_bit]
   have e:(∃ c∈B.fin.next,((beg[c]?).getD 0).testBit r=true/\r∉U.par c)↔∃ c∈B.fin.next,r∉U.par c/\Jv U r c :=
    ⟨fun ⟨c,a,b,d⟩=>⟨c,a,d,(hb.bit c r (hBok.next c a)).mp b⟩,fun ⟨c,a,b,d⟩=>⟨c,a,(hb.bit c r (hBok.next c a)).mpr d,b⟩⟩
   rw [e,or_comm]
   have e2:jQ U r i (k+1)↔(UF r (B.ops.drop (k+1))\/(Unw r (B.ops.drop (k+1))/\(r∈B.fin.reads\/∃ c∈B.fin.next,r∉U.par c/\Jv U r c))) :=
    ⟨fun ⟨B',hB',h⟩=>by rw [hB] at hB';cases hB';exact h,fun h=>⟨B,hB,h⟩⟩
   rw [e2]
theorem oG{U:Un}{beg:List Nat}(ho:jy U)(hb:yg U beg){t:Rt}(ht:t∈xa U){f:Nat->Bool}(hf:∀ r,f r=true↔r∈t.given\/jQ U r t.i t.k):(List.range U.count).filter f=jn U.count (t.tm U beg).all:=by
 unfold jn
 refine List.filter_congr fun r _=>?_
 rw [Bool.eq_iff_iff,hf,ZS ho hb ht]
noncomputable def opv:Option Op->MV
 |none=>.none
 |some o=>o.mv
inductive jfz (st:St) (rs:List Nat) (r:Nat) (t:Rt):Prop
 | mk (g p:Nat) (h1:st r=some (.list [.int (t.num:Nat),.int t.pos,.ref g,.ref p,opv t.op])) (h2:st g=some (.list (jc t.given))) (h3:st p=some (.list (jc [t.i,t.k]))) (h4:g∉rs) (h5:p∉rs)
inductive TmAt (N:Nat) (st:St) (r:Nat) (t:Tm):Prop
 | mk (g h:Nat) (h1:st r=some (.list [.int (t.num:Nat),.int t.pos,.ref g,.ref h,opv t.op])) (h2:st g=some (.list (jc t.given))) (h3:st h=some (.list (jc (jn N t.all))))
theorem TmAt.le{N:Nat}{st st':St}{r:Nat}{t:Tm}(h:TmAt N st r t)(l:Le st st'):TmAt N st' r t:=by
 obtain ⟨g,q,h1,h2,h3⟩:=h
 exact ⟨g,q,l _ _ h1,l _ _ h2,l _ _ h3⟩
structure TsRaw(st₀ st:St)(tl:Nat)(rs:List Nat)(ts:List Rt):Prop where
 main:st tl=some (.list (rs.map .ref))
 len:rs.length=ts.length
 nd:rs.Nodup
 new:∀ r∈rs,st₀ r=none
 off:tl∉rs
 each:∀ (i r:Nat) (t:Rt),rs[i]? = some r->ts[i]? = some t->jfz st rs r t
theorem TsRaw.le{st₀ st st':St}{tl:Nat}{rs:List Nat}{ts:List Rt}(h:TsRaw st₀ st tl rs ts)(l:Le st st'):TsRaw st₀ st' tl rs ts :=
 ⟨l _ _ h.main,h.len,h.nd,h.new,h.off,fun i r t a b=>by
  obtain ⟨g,p,h1,h2,h3,h4,h5⟩:=h.each i r t a b
  exact ⟨g,p,l _ _ h1,l _ _ h2,l _ _ h3,h4,h5⟩⟩
theorem TsRaw.out{st₀ st:St}{tl q:Nat}{rs:List Nat}{ts:List Rt}(h:TsRaw st₀ st tl rs ts)(n:st q=none):q∉rs:=fun hm=>by
 obtain ⟨i,hi⟩:=List.mem_iff_getElem?.mp hm
 have hl:i<ts.length:=by rw [← h.len];exact (List.getElem?_eq_some_iff.mp hi).1
 obtain ⟨g,p,h1,_⟩:=h.each i q _ hi (List.getElem?_eq_getElem hl)
 rw [n] at h1;cases h1
set_option tactic.hygienic true in
theorem zW{α:Type}{xs:List α}{x y:α}{i:Nat}(h:(xs++[x])[i]? = some y):(i<xs.length/\xs[i]? = some y)\/(i=xs.length/\x=y):=by
 rw [List.getElem?_append] at h
 split at h
 ·rename_i hi;exact Or.inl ⟨hi,h⟩
 ·rename_i hi
  cases hj:i - xs.length with
  |zero=>rw [hj] at h;simp only [List.getElem?_cons_zero,Option.some.injEq] at h;exact Or.inr ⟨Nat.le_antisymm (Nat.sub_eq_zero_iff_le.mp hj) (Nat.le_of_not_lt hi),h⟩
  |succ j=>rw [hj] at h;simp at h
theorem TsRaw.push{st₀ st st1 st2:St}{tl q g p:Nat}{rs:List Nat}{ts:List Rt}{t:Rt}(h:TsRaw st₀ st tl rs ts)(l:Le st st1)(l0:Le st₀ st)(ng:st g=none)(np:st p=none)(nq:st q=none)(hgq:g≠q)(hpq:p≠q)
  (hq:st1 q=some (.list [.int (t.num:Nat),.int t.pos,.ref g,.ref p,opv t.op])) (hg:st1 g=some (.list (jc t.given))) (hp:st1 p=some (.list (jc [t.i,t.k])))
  (x:Lx [tl] st1 st2) (hx:st2 tl=some (.list (rs.map MV.ref++[.ref q]))):TsRaw st₀ st2 tl (rs++[q]) (ts++[t]):=by
 have hqo:=h.out nq
 have htq:tl≠q:=jw nq h.main
 have htg:tl≠g:=jw ng h.main
 have htp:tl≠p:=jw np h.main
 refine ⟨by rw [hx,List.map_append];rfl,by simp [h.len],?_,?_,?_,?_⟩
 ·exact List.nodup_append.mpr ⟨h.nd,by simp,fun a ha b hb e=>hqo (by rw [← List.mem_singleton.mp hb,← e];exact ha)⟩
 ·intro r hr
  rcases List.mem_append.mp hr with hr | hr
  ·exact h.new r hr
  ·rw [List.mem_singleton.mp hr];exact l0.back nq
 ·intro hm
  rcases List.mem_append.mp hm with hm | hm
  ·exact h.off hm
  ·exact htq (List.mem_singleton.mp hm)
 ·intro i r s hr hs
  rcases zW hr with ⟨hi,hr⟩ | ⟨hi,rfl⟩
  ·rcases zW hs with ⟨_,hs⟩ | ⟨hi',_⟩
   ·obtain ⟨g',p',h1,h2,h3,h4,h5⟩:=h.each i r s hr hs
    have hrt:r≠tl:=fun e=>h.off (by rw [← e];exact List.mem_of_getElem? hr)
    have hgt:g'≠tl:=fun e=>by
     rw [e,h.main] at h2
     simp only [Option.some.injEq,qu,jc] at h2
     cases rs with
     |nil=>simp at hi
     |cons a as=>cases hgv:s.given with
      |nil=>rw [hgv] at h2;simp at h2
      |cons b bs=>rw [hgv] at h2;simp at h2
    have hpt:p'≠tl:=fun e=>by
     rw [e,h.main] at h3
     simp only [Option.some.injEq,qu,jc] at h3
     cases rs with
     |nil=>simp at hi
     |cons a as=>simp at h3
    refine ⟨g',p',lxg x hrt (l _ _ h1),lxg x hgt (l _ _ h2),lxg x hpt (l _ _ h3),fun hm=>?_,fun hm=>?_⟩
    ·rcases List.mem_append.mp hm with hm | hm
     ·exact h4 hm
     ·exact jw nq h2 (List.mem_singleton.mp hm)
    ·rcases List.mem_append.mp hm with hm | hm
     ·exact h5 hm
     ·exact jw nq h3 (List.mem_singleton.mp hm)
   ·rw [h.len] at hi;w_up
  ·rcases zW hs with ⟨hi',hs⟩ | ⟨_,rfl⟩
   ·rw [← h.len] at hi';w_up
   ·refine ⟨g,p,lxg x htq.symm hq,lxg x htg.symm hg,lxg x htp.symm hp,fun hm=>?_,fun hm=>?_⟩
    ·rcases List.mem_append.mp hm with hm | hm
     ·exact h.out ng hm
     ·exact hgq (List.mem_singleton.mp hm)
    ·rcases List.mem_append.mp hm with hm | hm
     ·exact h.out np hm
     ·exact hpq (List.mem_singleton.mp hm)
theorem jge{U:Un}(ho:jy U){t:Rt}(ht:t∈xa U):t.i<U.blocks.length/\t.k<100000/\t.given.length<1000:=by
 unfold xa at ht
 rcases List.mem_cons.mp ht with rfl | ht
 ·exact ⟨ho.pos,Nat.zero_lt_succ _,ho.entl⟩
 ·obtain ⟨⟨B,i⟩,hq,ht⟩:=List.mem_flatMap.mp ht
  have hB:U.blocks[i]? = some B:=List.mk_mem_zipIdx_iff_getElem?.mp hq
  have hi:i<U.blocks.length:=(List.getElem?_eq_some_iff.mp hB).1
  have hBok:=ho.blk B (List.mem_of_getElem? hB)
  unfold xn at ht
  rcases List.mem_cons.mp ht with rfl | ht
  ·exact ⟨hi,Nat.zero_lt_succ _,hBok.parl⟩
  ·obtain ⟨⟨o,k⟩,hp,rfl⟩:=List.mem_map.mp ht
   have hk:=List.mk_mem_zipIdx_iff_getElem?.mp hp
   have hkl:k<B.ops.length:=(List.getElem?_eq_some_iff.mp hk).1
   have:=hBok.opsl
   exact ⟨hi,show k+1<100000 by w_up,(hBok.ops o (List.mem_of_getElem? hk)).2.2.2⟩
def TsAt(N:Nat)(st:St)(tl:Nat)(ts:List Tm):Prop:=∃ rs:List Nat,st tl=some (.list (rs.map .ref))/\rs.length=ts.length/\∀ (i r:Nat) (t:Tm),rs[i]? = some r->ts[i]? = some t->TmAt N st r t
theorem TsAt.le{N:Nat}{st st':St}{tl:Nat}{ts:List Tm}(h:TsAt N st tl ts)(l:Le st st'):TsAt N st' tl ts:=by
 obtain ⟨rs,h1,h2,h3⟩:=h
 exact ⟨rs,l _ _ h1,h2,fun i r t a b=>(h3 i r t a b).le l⟩
theorem vA{st:St}{a b:Nat}{o:MObj}(h:st b=none)(e:st a=some o):b≠a:=(jw h e).symm
theorem v7{n u:Nat}{U:Un}{st:St}{K:MV->St->Prop}(hu:UnAt st u U)(ho:jy U)
  (hk:∀ tl st' beg,yg U beg->Le st st'->TsAt U.count st' tl (tms U beg)->K (.ref tl) st'):Cl (n+4) "_law_times" [.ref u] st K:=by
 refine jr (fn:=fn_law_times) (by decide) rfl rfl ?_
 unfold fn_law_times
 one_place
 obtain ⟨beg,hbeg⟩:=gw ho
 obtain ⟨d,e,bl,qs,h1,h2,h3,h4,h5⟩:=hu.qs
 have hN:=ho.cnt
 have hnb:=ho.nb
 l_ints
 refine ⟨by rw [je];exact Nat.lt_trans ho.entl (by decide),al fun g st1 l1 n1 hg=>?_⟩
 l_ints
 intro p st2 l2 n2 hp
 l_ints
 intro q st3 l3 n3 hq
 l_ints
 intro tl st4 l4 n4 htl
 have l12:=l1.trans l2
 have l123:=l12.trans l3
 have l14:=l123.trans l4
 have n0tl:=l123.back n4
 have hg2:=l2 _ _ hg
 have hraw:TsRaw st st4 tl [q] [⟨0,-1,U.entry,0,0,none⟩]:=by
  refine ⟨htl,rfl,by simp,fun r hr=>by rw [List.mem_singleton.mp hr];exact l12.back n3,fun hm=>?_,fun i r t a b=>?_⟩
  ·exact vA n4 hq (List.mem_singleton.mp hm)
  ·cases i with
   |zero =>
    simp only [List.getElem?_cons_zero,Option.some.injEq] at a b
    subst a;subst b
    exact ⟨g,p,l4 _ _ hq,l4 _ _ (l3 _ _ hg2),l4 _ _ (l3 _ _ hp),fun hm=>jw n3 hg2 (List.mem_singleton.mp hm),fun hm=>jw n3 hp (List.mem_singleton.mp hm)⟩
   |succ i=>simp at a
 have h1':=l14 _ _ h1
 have h3':=l14 _ _ h3
 l_ints
 refine lp (mv:=fun q:Nat×Bk×Nat=>MV.ref q.1) (fun pre ρ st'=>∀ G:ja->St->Prop,(Le st st'->∀ rs,TsRaw st st' tl rs (⟨0,-1,U.entry,0,0,none⟩::(pre.map Prod.snd).flatMap xn)->rs.length≤1+1001*pre.length->∀ x y z w,G [("unit",some (.ref u)),("found",some (.ref tl)),("own",x),("at",y),("op",z),("time",w)] st')->G ρ st')
   (fun _ k=>k l14 [q] hraw (Nat.le_refl _) _ _ _ _) (fun pre ρ st' h=>h (fun _ t=>ji _ t) fun n0 _ _ _ _ _ _ _=>jh (n0 _ _ h3)) ?_ ?_
 ·rintro pre q post eq ρ st5 I3 K' hK'
  apply I3;intro l5 rs hR hrl x y z w
  obtain ⟨b,B,i⟩:=q
  have hm:(b,B,i)∈qs:=by rw [eq];simp
  have hBi:=YX h4 hm
  have hBok:=ho.blk B (List.mem_of_getElem? hBi)
  obtain ⟨db,pb,ob,hb2,hb3,hb4⟩:=h5 _ hm
  simp only at hb2 hb3 hb4
  have hb2':=l5 _ _ hb2
  have hb3':=l5 _ _ hb3
  have hpre:pre.length≤100:=by
   have:=congrArg List.length eq
   rw [zp h4,List.length_append,List.length_cons] at this;w_up
  l_ints
  refine ⟨jJ hR.main,?_⟩
  l_ints
  refine ⟨by rw [je];exact Nat.lt_trans hBok.parl (by decide),al fun g st6 l6 n6 hg=>?_⟩
  have hb2'':=l6 _ _ hb2'
  l_ints
  intro p st7 l7 n7 hp
  l_ints
  intro q st8 l8 n8 hq
  l_ints
  have l68:=l6.trans (l7.trans l8)
  refine jI hR.main (l68 _ _ hR.main) (by rw [List.length_map];unfold jb;w_up) fun st9 l9 h9=>⟨rfl,?_⟩
  have hR9:=hR.push (t:=⟨i,-1,B.params,i,0,none⟩) l68 l5 n6 (l6.back n7) (l6.back (l7.back n8)) (jw n8 (l7 _ _ hg)) (jw n8 hp) hq (l8 _ _ (l7 _ _ hg)) (l8 _ _ hp) l9 h9
  have L9:=(l5.trans l68).lx n0tl l9
  have hb2x:=L9 _ _ hb2
  l_ints
  have hb4':=L9 _ _ hb4
  refine ⟨ob,_,rfl,hb4',?_⟩
  rw [JX]
  refine lp (mv:=fun p:Op×Nat=>MV.tup [.int (p.2:Nat),p.1.mv]) (fun pr ρ st'=>∀ G:ja->St->Prop,(Le st st'->∀ rs',TsRaw st st' tl rs' ((⟨0,-1,U.entry,0,0,none⟩::(pre.map Prod.snd).flatMap xn)++(⟨i,-1,B.params,i,0,none⟩::pr.map (U3 i)))->rs'.length≤1+1001*pre.length+1+pr.length->∀ y z w,G [("unit",some (.ref u)),("found",some (.ref tl)),("own",some (.ref b)),("at",y),("op",z),("time",w)] st')->G ρ st')
    (fun _ k=>k L9 _ hR9 (by simp;w_up) _ _ _) (fun pr ρ st' h=>h (fun _ t=>ji _ t) fun n0 _ _ _ _ _ _=>jh (n0 _ _ hb4)) ?_ ?_
  ·rintro pr ⟨o,k⟩ ps ec ρ st10 I2 K1 hK1
   apply I2;intro l10 rs' hR' hrl' y z w
   have hok:=List.mk_mem_zipIdx_iff_getElem?.mp (show (o,k)∈B.ops.zipIdx by rw [ec];simp)
   have hoo:=hBok.ops o (List.mem_of_getElem? hok)
   have hprl:pr.length≤1000:=by
    have:=congrArg List.length ec
    rw [List.length_zipIdx,List.length_append,List.length_cons] at this
    have:=hBok.opsl;w_up
   have hb2y:=l10 _ _ hb2
   refine yO rfl ?_
   l_ints
   refine ⟨jJ hR'.main,?_⟩
   l_ints
   refine yU (Nat.lt_trans hoo.2.2.2 (by decide)) fun g st11 l11 n11 hg=>?_
   have hb2z:=l11 _ _ hb2y
   l_ints
   intro p st12 l12 n12 hp
   l_ints
   intro q st13 l13 n13 hq
   l_ints
   have l1113:=l11.trans (l12.trans l13)
   refine jI hR'.main (l1113 _ _ hR'.main) (by rw [List.length_map];unfold jb;w_up) fun st14 l14 h14=>⟨rfl,?_⟩
   have hR14:=hR'.push (t:=U3 i (o,k)) l1113 l10 n11 (l11.back n12) (l11.back (l12.back n13)) (jw n13 (l12 _ _ hg)) (jw n13 hp) hq (l13 _ _ (l12 _ _ hg)) (l13 _ _ hp) l14 h14
   l_ints
   refine hK1 _ _ (fun _ k=>k ((l10.trans l1113).lx n0tl l14) (rs'++[q]) ?_ ?_ _ _ _)
   ·rw [List.append_assoc] at hR14
    rw [List.map_append];exact hR14
   ·simp;w_up
  ·rintro ρ st10 I2
   apply I2;intro l10 rs' hR' hrl' y z w
   have:=hBok.opsl
   l_ints
   refine hK' _ _ (fun _ k=>k l10 rs' ?_ ?_ _ _ _ _)
   ·rw [List.map_append,List.flatMap_append]
    simp only [List.map_cons,List.map_nil,List.flatMap_cons,List.flatMap_nil,List.append_nil]
    exact hR'
   ·rw [List.length_append,List.length_singleton]
    rw [List.length_zipIdx] at hrl';w_up
 ·rintro ρ st5 I3
  apply I3;intro l5 rs hR hrl x y z w
  rw [show qs.map Prod.snd=U.blocks.zipIdx from h4] at hR
  have hR:TsRaw st st5 tl rs (xa U):=hR
  l_ints
  refine j2 hR.main ?_
  refine lp (mv:=MV.ref) (fun pre ρ st'=>∀ G:ja->St->Prop,(Le st st'->st' tl=some (.list (rs.map .ref))->(∀ (i r:Nat) (t:Rt),rs[i]? = some r->(xa U)[i]? = some t->(pre.length≤i->jfz st' rs r t)/\(i<pre.length->∃ g h,st' r=some (.list [.int (t.num:Nat),.int t.pos,.ref g,.ref h,opv t.op])/\st' g=some (.list (jc t.given))/\st' h=some (.list (jc (jn U.count (t.tm U beg).all)))/\g∉rs/\h∉rs))->∀ x y z w,G [("unit",some (.ref u)),("found",some (.ref tl)),("own",x),("at",y),("op",z),("time",w)] st')->G ρ st')
    (fun _ k=>k l5 hR.main (fun i r t a b=>⟨fun _=>hR.each i r t a b,fun h=>by simp at h⟩) _ _ _ _) (fun pre ρ st' h=>h (fun _ t=>ji _ t) fun _ n1 _ _ _ _ _=>jh n1) ?_ ?_
  ·rintro pre r post eq ρ st6 I1 K' hK'
   apply I1;intro l6 htl6 hE x y z w
   have hri:rs[pre.length]? = some r:=by rw [eq];simp
   have hrm:=List.mem_of_getElem? hri
   have hlt:pre.length<(xa U).length:=by rw [← hR.len];exact (List.getElem?_eq_some_iff.mp hri).1
   obtain ⟨t,ht⟩:∃ t,(xa U)[pre.length]? = some t:=⟨_,List.getElem?_eq_getElem hlt⟩
   have htm:=List.mem_of_getElem? ht
   obtain ⟨hti,htk,htg⟩:=jge ho htm
   obtain ⟨g,p,hr1,hg,hp,hgn,hpn⟩:=(hE _ r t hri ht).1 (Nat.le_refl _)
   have h1y:=l6 _ _ h1
   l_ints
   refine ⟨⟨Int.natCast_nonneg _,Int.ofNat_lt.mpr (Nat.lt_trans hN (by decide))⟩,?_⟩
   rw [Int.toNat_natCast]
   have hdec:∀ r,∃ b:Bool,b=true↔r∈t.given\/jQ U r t.i t.k:=fun r=>by
    by_cases h:r∈t.given\/jQ U r t.i t.k
    ·exact ⟨true,⟨fun _=>h,fun _=>rfl⟩⟩
    ·exact ⟨false,⟨fun e=>(by cases e),fun e=>absurd e h⟩⟩
   obtain ⟨f,hf⟩:=Classical.axiomOfChoice hdec
   refine cp (mv:=fun i:Nat=>MV.int (i:Int)) (fun _ st'=>Le st6 st') (fun x=>if f x then some (.int (x:Int)) else none) Le.refl (fun _ _ _=>jH) ?_ ?_
   ·rintro pre1 c post1 e1 st7 l7 K1 hK1
    have hr7:=l7 _ _ hr1
    l_ints
    refine jeY hr7 rfl ?_
    refine Vf (l7 _ _ hg) ?_
    refine yQ (fun hin=>?_) fun hin=>?_
    ·l_ints
     have z:=hK1 _ l7
     rw [if_pos ((hf c).mpr (Or.inl hin))] at z;exact z
    ·l_ints
     refine jfP hr7 rfl ?_
     l_ints
     refine zl (l7 _ _ hp) rfl ?_
     l_ints
     refine jfP hr7 rfl ?_
     l_ints
     refine V9 (l7 _ _ hp) rfl ?_
     l_ints
     refine XO (hu.le (l6.trans l7)) ho hti htk fun b st8 l8 hb=>?_
     refine JV (fun hbt=>?_) fun hbf=>?_
     ·l_ints
      have z:=hK1 _ (l7.trans l8)
      rw [if_pos ((hf c).mpr (Or.inr (hb.mp hbt)))] at z;exact z
     ·have z:=hK1 _ (l7.trans l8)
      rw [if_neg fun hh=>((hf c).mp hh).elim hin fun hl=>by rw [hb.mpr hl] at hbf;cases hbf] at z;exact z
   ·rintro st7 l7
    refine YD zv (Nat.lt_of_le_of_lt (List.length_filter_le ..) (by rw [List.length_range];exact Nat.lt_trans hN (by decide))) fun th st8 l8 n8 hth=>?_
    rw [oG ho hbeg htm hf] at hth
    have l78:=l7.trans l8
    have hr8:=l78 _ _ hr1
    l_ints
    refine Zx (i:=3) hr8 (ble rfl) fun st9 l9 hr9=>?_
    have hthn:th∉rs:=fun hm=>by
     obtain ⟨i,hi⟩:=List.mem_iff_getElem?.mp hm
     have hil:i<(xa U).length:=by rw [← hR.len];exact (List.getElem?_eq_some_iff.mp hi).1
     have hE':=hE i th _ hi (List.getElem?_eq_getElem hil)
     have n6:=l7.back n8
     by_cases hc:pre.length≤i
     ·obtain ⟨_,_,hx,_⟩:=hE'.1 hc;rw [n6] at hx;cases hx
     ·obtain ⟨_,_,hx,_⟩:=hE'.2 (by w_up);rw [n6] at hx;cases hx
    have hne:∀ a,a∉rs->a≠r:=fun a ha e=>ha (by rw [e];exact hrm)
    l_ints
    refine hK' _ _ (fun _ k=>k ((l6.trans l78).lx (hR.new r hrm) l9) (lxg l9 (hne _ hR.off) (l78 _ _ htl6)) (fun i r' t' a b=>?_) _ _ _ _)
    rw [List.length_append,List.length_singleton]
    by_cases hir:i=pre.length
    ·subst hir
     rw [hri] at a;cases a
     rw [ht] at b;cases b
     exact ⟨fun h=>by w_up,fun _=>⟨g,th,hr9,lxg l9 (hne _ hgn) (l78 _ _ hg),lxg l9 (hne _ hthn) hth,hgn,hthn⟩⟩
    ·have hrr:r'≠r:=fun e=>by
      subst e
      obtain ⟨h1',h1''⟩:=List.getElem?_eq_some_iff.mp a
      obtain ⟨h2',h2''⟩:=List.getElem?_eq_some_iff.mp hri
      exact hir ((List.getElem_inj hR.nd).mp (h1''.trans h2''.symm))
     have hE':=hE i r' t' a b
     refine ⟨fun h=>?_,fun h=>?_⟩
     ·obtain ⟨g',p',q1,q2,q3,q4,q5⟩:=hE'.1 (by w_up)
      exact ⟨g',p',lxg l9 hrr (l78 _ _ q1),lxg l9 (hne _ q4) (l78 _ _ q2),lxg l9 (hne _ q5) (l78 _ _ q3),q4,q5⟩
     ·obtain ⟨g',p',q1,q2,q3,q4,q5⟩:=hE'.2 (by w_up)
      exact ⟨g',p',lxg l9 hrr (l78 _ _ q1),lxg l9 (hne _ q4) (l78 _ _ q2),lxg l9 (hne _ q5) (l78 _ _ q3),q4,q5⟩
  ·rintro ρ st6 I1
   apply I1;intro l6 htl6 hE x y z w
   l_ints
   refine hk tl st6 beg hbeg l6 ⟨rs,htl6,by rw [Qg,List.length_map];exact hR.len,fun i r t a b=>?_⟩
   rw [Qg,List.getElem?_map] at b
   obtain ⟨t',ht',rfl⟩:=Option.map_eq_some_iff.mp b
   obtain ⟨g,h,q1,q2,q3,_,_⟩:=(hE i r t' a ht').2 (List.getElem?_eq_some_iff.mp a).1
   exact ⟨g,h,q1,q2,q3⟩
theorem jeH{κ:Type}[DecidableEq κ]{x y:κ}{u:MV}{r:List (κ×MV)}:lkD ((y,u)::r) x=if y=x then some u else lkD r x:=rfl
theorem jdk{κ:Type}[DecidableEq κ]{x y:κ}{u v:MV}{r:List (κ×MV)}:Ju ((y,u)::r) x v=if y=x then (y,v)::r else (y,u)::Ju r x v:=rfl
theorem jci{κ:Type}[DecidableEq κ]{x y:κ}{v:MV}{d:List (κ×MV)}:lkD (Ju d x v) y=if x=y then some v else lkD d y:=by
 induction d with
 |nil=>rfl
 |cons p r ih =>
  obtain ⟨z,u⟩:=p
  rw [jdk,jeH]
  by_cases h:z=x
  ·rw [if_pos h,jeH,h]
   by_cases q:x=y
   ·rw [if_pos q,if_pos q]
   ·rw [if_neg q,if_neg q,if_neg q]
  ·rw [if_neg h,jeH,ih]
   by_cases q:z=y
   ·rw [if_pos q,if_pos q,if_neg fun e=>h (q.trans e.symm)]
   ·rw [if_neg q,if_neg q]
theorem ZI{κ:Type}[DecidableEq κ]{x:κ}{v:MV}{d:List (κ×MV)}:(Ju d x v).map (·.1)=if x∈d.map (·.1) then d.map (·.1) else d.map (·.1)++[x]:=by
 induction d with
 |nil=>rfl
 |cons p r ih =>
  obtain ⟨y,u⟩:=p
  rw [jdk,List.map_cons]
  by_cases h:y=x
  ·rw [if_pos h,if_pos (List.mem_cons.mpr (.inl h.symm))];rfl
  ·rw [if_neg h,List.map_cons,ih]
   by_cases q:x∈r.map (·.1)
   ·rw [if_pos q,if_pos (List.mem_cons_of_mem _ q)]
   ·rw [if_neg q,if_neg fun m=>(List.mem_cons.mp m).elim (fun e=>h e.symm) q];rfl
structure PairsAt(N:Nat)(st:St)(f:Nat)(P:Nat->Nat->Bool):Prop where
 ex:∃ es:List ((Int×Int)×MV),st f=some (.tdict es)/\(es.map (·.1)).Nodup/\(∀ k∈es.map (·.1),∃ x y:Nat,x<N/\y<N/\k=((x:Int),(y:Int)))/\∀ x y:Nat,(lkD es ((x:Int),(y:Int))).isSome=P x y
theorem PairsAt.le{N:Nat}{st st':St}{f:Nat}{P:Nat->Nat->Bool}(h:PairsAt N st f P)(l:Le st st'):PairsAt N st' f P:=by
 obtain ⟨es,h1,h2⟩:=h.ex
 exact ⟨es,l _ _ h1,h2⟩
theorem PairsAt.lxn{N:Nat}{st st':St}{f r:Nat}{P:Nat->Nat->Bool}(h:PairsAt N st f P)(l:Lx [r] st st')(n:f≠r):PairsAt N st' f P:=by
 obtain ⟨es,h1,h2⟩:=h.ex
 exact ⟨es,lxg l n h1,h2⟩
theorem UI{N:Nat}{es:List ((Int×Int)×MV)}(hN:N<1000)(hn:(es.map (·.1)).Nodup)(hk:∀ k∈es.map (·.1),∃ x y:Nat,x<N/\y<N/\k=((x:Int),(y:Int))):es.length<jb:=by
 have h:=List.Nodup.length_le_of_subset (l₂:=(List.range N).flatMap fun x:Nat=>(List.range N).map fun y:Nat=>((x:Int),(y:Int))) hn fun k hm=>by
  obtain ⟨x,y,hx,hy,rfl⟩:=hk k hm
  exact List.mem_flatMap.mpr ⟨x,List.mem_range.mpr hx,List.mem_map.mpr ⟨y,List.mem_range.mpr hy,rfl⟩⟩
 have hl:((List.range N).flatMap fun x:Nat=>(List.range N).map fun y:Nat=>((x:Int),(y:Int))).length=N*N:=by
  rw [List.length_flatMap]
  simp only [List.length_map,List.length_range,List.map_const',List.sum_replicate_nat]
 rw [List.length_map,hl] at h
 have:N*N≤1000*1000:=Nat.mul_le_mul (by w_up) (by w_up)
 unfold jb;w_up
set_option tactic.hygienic true in
theorem jfF{N r x y:Nat}{P:Nat->Nat->Bool}{st:St}{Q:St->Prop}(h:PairsAt N st r P)(hN:N<1000)(hx:x<N)(hy:y<N)
  (k:∀ st',Lx [r] st st'->PairsAt N st' r (fun a b=>P a b||(decide (a=x)&&decide (b=y)))->Q st'):Jb (.ref r) (.tup [.int (x:Nat),.int (y:Nat)]) (.bool true) st Q:=by
 obtain ⟨es,h1,h2,h3,h4⟩:=h.ex
 refine SetSubR.t h1 (UI hN h2 h3) (k _ Lx.self ⟨_,yk,?_,?_,?_⟩)
 ·rw [ZI];split
  ·exact h2
  ·rename_i hn
   exact List.nodup_append.mpr ⟨h2,by simp,fun a ha b hb e=>hn (by rw [← List.mem_singleton.mp hb,← e];exact ha)⟩
 ·rw [ZI];split
  ·exact h3
  ·intro k hk
   rcases List.mem_append.mp hk with hk | hk
   ·exact h3 k hk
   ·exact ⟨x,y,hx,hy,List.mem_singleton.mp hk⟩
 ·intro a b
  rw [jci]
  split
  ·rename_i e
   simp only [Prod.mk.injEq] at e
   have e1:a=x:=by w_up
   have e2:b=y:=by w_up
   rw [e1,e2];simp
  ·rename_i e
   rw [h4]
   have:¬ (a=x/\b=y):=fun hh=>e (by rw [hh.1,hh.2])
   by_cases e1:a=x<;>by_cases e2:b=y<;>simp_all
theorem jdn{x y r N:Nat}{P:Nat->Nat->Bool}{st:St}{B:Bool->Prop}(h:PairsAt N st r P)(k:B (P x y)):yo .inn (.tup [.int (x:Nat),.int (y:Nat)]) (.ref r) st B:=by
 obtain ⟨es,h1,_,_,h4⟩:=h.ex
 exact CmpR.inn (InR.tdict h1 (by rw [h4];exact k))
noncomputable def XN:Option Op->Bool
 |none=>false
 |some o=>o.isFix
noncomputable def frO:Option Op->List Nat
 |none=>[]
 |some o=>vC o
theorem jcV(o:Op):V6 o.mv=true:=by cases o<;>rfl
theorem VK{n:Nat}{o:Option Op}{ρ:ja}{st:St}{K:MV->St->Prop}(hv:lk ρ "op" = some (opv o))(hk:K (.bool (XN o)) st) :
  wpE (Cl n) (.and (.isnn (.var "op")) (.cmp .eq (.sub (.var "op") (.int 0)) (.str "fix"))) ρ st K:=by
 refine jda (GF (ya hv ?_))
 cases o with
 |none=>exact Jn hk
 |some o =>
  have z:jbs (Cl n) ρ K (.cmp .eq (.sub (.var "op") (.int 0)) (.str "fix")) (.bool true) st->jft (jbs (Cl n) ρ K (.cmp .eq (.sub (.var "op") (.int 0)) (.str "fix"))) (opv (some o)) st:=fun k=>by show jbs _ _ _ _ (.bool (V6 o.mv)) st;rw [jcV];exact k
  refine z (X1 (Xp (xG (ya hv (zH (oS fun s hs=>jbf (o4 ?_)))))))
  have:decide (s = "fix")=o.isFix:=by
   rw [Bool.eq_iff_iff,decide_eq_true_eq];exact hs
  rw [this];exact hk
theorem Gn{n N:Nat}{o:Option Op}{ρ:ja}{st:St}{K:MV->St->Prop}(hv:lk ρ "op" = some (opv o))(ho:∀ p,o=some p->qm N p)(hk:Ret st (.list (jc (frO o))) K) :
  wpE (Cl (n+2)) (.ite (.and (.isnn (.var "op")) (.cmp .eq (.sub (.var "op") (.int 0)) (.str "fix"))) (.call "_law_reads" [(.var "op")]) (.list [])) ρ st K:=by
 refine jdw (VK hv ?_)
 cases o with
 |none=>exact Jn (qN (Jc (lb0 (al hk))))
 |some o =>
  have hoo:=ho o rfl
  cases hf:o.isFix with
  |true =>
   rw [show XN (some o)=true from hf]
   refine X1 (Qm (JY (ya hv (Jc ?_))))
   refine JJ (Nat.lt_trans hoo.2.2.1 (by decide)) (Nat.lt_trans hoo.2.2.2 (by decide)) ?_
   rw [show frO (some o)=o.reads from yM hf] at hk;exact hk
  |false =>
   rw [show XN (some o)=false from hf]
   refine Jn (qN (Jc (lb0 (al ?_))))
   rw [show frO (some o)=[] from yN (by rw [hf];decide)] at hk;exact hk
noncomputable def QS(one other x y:Nat):Bool:=decide (one≠other)&&((decide (x=one)&&decide (y=other))||(decide (x=other)&&decide (y=one)))
noncomputable def jS(around:List Nat)(one x y:Nat):Bool:=around.any fun other=>QS one other x y
noncomputable def Jk(N:Nat)(t:Tm):List Nat:=jn N t.all++frO t.op
noncomputable def Z6(N:Nat)(t:Tm)(x y:Nat):Bool:=t.given.any fun one=>jS (Jk N t) one x y
noncomputable def jx(N:Nat)(ts:List Tm)(x y:Nat):Bool:=ts.any fun t=>Z6 N t x y
theorem Qr{α:Type}{p:α->Bool}{xs:List α}{x:α}:(xs++[x]).any p=(xs.any p||p x):=by simp
theorem Xb{n tl N:Nat}{ts:List Tm}{st:St}{K:MV->St->Prop}(h:TsAt N st tl ts)(hN:N<1000)(hts:∀ t∈ts,TmOk N t)
  (hk:∀ f st',Le st st'->PairsAt N st' f (jx N ts)->K (.ref f) st'):Cl (n+3) "_law_pairs" [.ref tl] st K:=by
 refine jr (fn:=fn_law_pairs) (by decide) rfl rfl ?_
 unfold fn_law_pairs
 one_place
 obtain ⟨rs,hm,hl,he⟩:=h
 l_ints
 intro f st1 l1 n1 hf
 have hm1:=l1 _ _ hm
 l_ints
 refine lp (mv:=MV.ref) (fun pre ρ st'=>∀ G:ja->St->Prop,(Le st st'->PairsAt N st' f (jx N (ts.take pre.length))->∀ a b c d e g x y,G [("times",some (.ref tl)),("found",some (.ref f)),("number",a),("at",b),("given",c),("there",d),("op",e),("around",g),("one",x),("other",y)] st')->G ρ st')
   (fun _ k=>k l1 ⟨[],hf,by simp,by simp,fun x y=>rfl⟩ _ _ _ _ _ _ _ _) (fun pre ρ st' h=>h (fun _ t=>ji _ t) fun n0 _ _ _ _ _ _ _ _ _=>jh (n0 _ _ hm)) ?_ ?_
 ·rintro pre r post eq ρ st2 I3 K' hK'
  apply I3;intro l2 hP a b c d e g x y
  have hri:rs[pre.length]? = some r:=by rw [eq];simp
  have hlt:pre.length<ts.length:=by rw [← hl];exact (List.getElem?_eq_some_iff.mp hri).1
  obtain ⟨t,ht⟩:∃ t,ts[pre.length]? = some t:=⟨_,List.getElem?_eq_getElem hlt⟩
  have htok:=hts t (List.mem_of_getElem? ht)
  obtain ⟨gv,th,q1,q2,q3⟩:=(he _ r t hri ht).le l2
  have hgf:gv≠f:=jw n1 (by
   obtain ⟨gv',th',z1,z2,z3⟩:=he _ r t hri ht
   have:=l2 _ _ z1
   rw [q1] at this
   cases this;exact z2)
  refine G3 q1 rfl ?_
  refine jm (yE (Q7 (ya rfl (Gn (N:=N) (o:=t.op) rfl htok.op fun q st3 l3 n3 hq=>?_))))
  have hfl:(frO t.op).length<1000:=by
   cases hto:t.op with
   |none=>simp [frO]
   |some o =>
    have:=(htok.op o hto).2.2.1
    cases hfx:o.isFix with
    |true=>rw [show frO (some o)=o.reads from yM hfx];exact this
    |false=>rw [show frO (some o)=[] from yN (by rw [hfx];decide)];simp
  refine xx (l3 _ _ q3) hq (by rw [je,je];have:=VU (N:=N) (m:=t.all);unfold jb;w_up) fun ar st4 l4 n4 har=>?_
  rw [js] at har
  have l34:=l3.trans l4
  have hP4:=hP.le l34
  have q2':=l34 _ _ q2
  have har_lt:∀ z∈jn N t.all++frO t.op,z<N:=fun z hz=>by
   rcases List.mem_append.mp hz with hz | hz
   ·exact yT hz
   ·cases hto:t.op with
    |none=>rw [hto] at hz;simp [frO] at hz
    |some o =>
     rw [hto] at hz
     cases hfx:o.isFix with
     |true=>rw [show frO (some o)=o.reads from yM hfx] at hz;exact (htok.op o hto).1 z hz
     |false=>rw [show frO (some o)=[] from yN (by rw [hfx];decide)] at hz;simp at hz
  have harf:ar≠f:=vA (n4) (l3 _ _ hP.ex.choose_spec.1)
  have hstep:∀ x y,jx N (ts.take (pre++[r]).length) x y=(jx N (ts.take pre.length) x y||Z6 N t x y):=fun x y=>by
   unfold jx
   rw [List.length_append,List.length_singleton,List.take_add_one,ht]
   exact Qr
  have hAR:jn N t.all++frO t.op=Jk N t:=rfl
  rw [hAR] at har har_lt
  generalize hAR':Jk N t=AR at *
  l_ints
  refine lp (mv:=fun i:Nat=>MV.int (i:Int)) (fun pr ρ st'=>∀ G:ja->St->Prop,(Le st st'->st' gv=some (.list (jc t.given))->st' ar=some (.list (jc AR))->(PairsAt N st' f (fun x y=>jx N (ts.take pre.length) x y||pr.any fun one=>jS AR one x y))->∀ x y,G [("times",some (.ref tl)),("found",some (.ref f)),("number",some (.int (t.num:Nat))),("at",some (.int t.pos)),("given",some (.ref gv)),("there",some (.ref th)),("op",some (opv t.op)),("around",some (.ref ar)),("one",x),("other",y)] st')->G ρ st')
    (fun _ k=>k (l2.trans l34) q2' har (by simpa using hP4) _ _) (fun pr ρ st' h=>h (fun _ t=>ji _ t) fun _ n1 _ _ _ _=>jh n1) ?_ ?_
  ·rintro pr one ps ec ρ st5 I2 K1 hK1
   apply I2;intro l5 g5 a5 hP5 x y
   have hone:one<N:=htok.given one (by rw [ec];simp)
   l_ints
   refine lp (mv:=fun i:Nat=>MV.int (i:Int)) (fun pr2 ρ st'=>∀ G:ja->St->Prop,(Le st st'->st' gv=some (.list (jc t.given))->st' ar=some (.list (jc AR))->(PairsAt N st' f (fun x y=>(jx N (ts.take pre.length) x y||pr.any fun one=>jS AR one x y)||jS pr2 one x y))->∀ y,G [("times",some (.ref tl)),("found",some (.ref f)),("number",some (.int (t.num:Nat))),("at",some (.int t.pos)),("given",some (.ref gv)),("there",some (.ref th)),("op",some (opv t.op)),("around",some (.ref ar)),("one",some (.int (one:Nat))),("other",y)] st')->G ρ st')
     (fun _ k=>k l5 g5 a5 (by simpa [jS] using hP5) _) (fun pr ρ st' h=>h (fun _ t=>ji _ t) fun _ _ n2 _ _=>jh n2) ?_ ?_
   ·rintro pr2 other ps2 ec2 ρ st6 I1 K2 hK2
    apply I1;intro l6 g6 a6 hP6 y
    have hoth:other<N:=har_lt other (by rw [ec2];simp)
    l_ints
    refine QZ (yQ (fun hne=>?_) fun hne=>?_)
    ·l_ints
     refine jfF hP6 hN hone hoth fun st7 l7 hP7=>?_
     l_ints
     refine jfF hP7 hN hoth hone fun st8 l8 hP8=>?_
     l_ints
     refine hK2 _ _ (fun _ k=>k ((l6.lx n1 l7).lx n1 l8) (lxg l8 hgf (lxg l7 hgf g6)) (lxg l8 harf (lxg l7 harf a6)) ?_ _)
     have e9:(fun a b:Nat=>((jx N (ts.take pre.length) a b||pr.any fun one=>jS AR one a b)||jS pr2 one a b)||(decide (a=one)&&decide (b=other))||(decide (a=other)&&decide (b=one))) =
       fun a b=>(jx N (ts.take pre.length) a b||pr.any fun one=>jS AR one a b)||jS (pr2++[other]) one a b:=by
      funext a b
      unfold jS
      rw [Qr (xs:=pr2),← Bool.or_assoc,Bool.or_assoc (_||_)]
      congr 1
      unfold QS
      rw [decide_eq_true hne,Bool.true_and]
     rw [← e9];exact hP8
    ·l_ints
     refine hK2 _ _ (fun _ k=>k l6 g6 a6 ?_ _)
     have e9:(fun a b:Nat=>(jx N (ts.take pre.length) a b||pr.any fun one=>jS AR one a b)||jS pr2 one a b) =
       fun a b=>(jx N (ts.take pre.length) a b||pr.any fun one=>jS AR one a b)||jS (pr2++[other]) one a b:=by
      funext a b
      unfold jS
      rw [Qr (xs:=pr2)]
      have:QS one other a b=false:=by unfold QS;rw [decide_eq_false hne,Bool.false_and]
      rw [this,Bool.or_false]
     rw [← e9];exact hP6
   ·rintro ρ st6 I1
    apply I1;intro l6 g6 a6 hP6 y
    l_ints
    refine hK1 _ _ (fun _ k=>k l6 g6 a6 ?_ _ _)
    have e9:(fun a b:Nat=>(jx N (ts.take pre.length) a b||pr.any fun one=>jS AR one a b)||jS AR one a b) =
      fun a b=>jx N (ts.take pre.length) a b||(pr++[one]).any fun one=>jS AR one a b:=by
     funext a b
     rw [Qr,Bool.or_assoc]
    rw [← e9];exact hP6
  ·rintro ρ st5 I2
   apply I2;intro l5 g5 a5 hP5 x y
   l_ints
   refine hK' _ _ (fun _ k=>k l5 ?_ _ _ _ _ _ _ _ _)
   have e9:(fun a b:Nat=>jx N (ts.take pre.length) a b||t.given.any fun one=>jS AR one a b)=jx N (ts.take (pre++[r]).length):=by
    funext a b
    rw [hstep];unfold Z6;rw [hAR']
   rw [← e9];exact hP5
 ·rintro ρ st2 I3
  apply I3;intro l2 hP a b c d e g x y
  l_ints
  rw [hl,List.take_length] at hP
  exact hk f st2 l2 hP
noncomputable def jdl (o:Option MObj) (i:Nat):Nat:=o.casesOn 0 fun o=>o.casesOn (fun xs=>(xs[i]?).casesOn 0 fun v=>v.casesOn 0 (fun _=>0) (fun _=>0) (fun _=>0) (fun _=>0) (fun a=>a) (fun _=>0)) (fun _=>0) (fun _=>0) (fun _=>0) (fun _ _ _=>0) (fun _=>0)
theorem vY{a b c a' b' c':MV}{g t g' t':Nat}(h:some (MObj.list [a,b,.ref g,.ref t,c])=some (.list [a',b',.ref g',.ref t',c'])):g=g'/\t=t':=⟨congrArg (jdl · 2) h,congrArg (jdl · 3) h⟩
noncomputable def Yv(d:PD)(xs:List Nat):Option (Nat×Nat):=xs.findSome? fun other=>xs.findSome? fun one=>if decide (one<other)&&decide (pl d one=pl d other) then some (one,other) else none
noncomputable def yV(d:PD)(t:Tm):Option (Nat×Nat):=t.given.findSome? fun one=>if ((frO t.op).filter fun s=>decide (pl d s=pl d one)).isEmpty then none else some (one,one)
noncomputable def yz(N:Nat)(d:PD)(t:Tm):Option (Nat×Int×Nat×Nat) :=
 ((if decide (t.pos<0)||!t.given.isEmpty then Yv d (jn N t.all) else none).or (yV d t)).map fun c=>(t.num,t.pos,c)
noncomputable def yr(N:Nat)(d:PD)(ts:List Tm):Option (Nat×Int×Nat×Nat):=ts.findSome? (yz N d)
theorem v6{n tl N f:Nat}{d:PD}{ts:List Tm}{st:St}{K:MV->St->Prop}(h:TsAt N st tl ts)(hN:N<1000)(hts:∀ t∈ts,TmOk N t)(hf:st f=some (.idict (dP d)))(hd:Total N d)
  (hk:∀ st',Le st st'->K (wmv (yr N d ts)) st'):Cl (n+3) "_law_wrong" [.ref tl,.ref f] st K:=by
 refine jr (fn:=fn_law_wrong) (by decide) rfl rfl ?_
 unfold fn_law_wrong
 one_place
 obtain ⟨rs,hm,hl,he⟩:=h
 l_ints
 refine lp (mv:=MV.ref) (fun pre ρ st'=>Le st st'/\(ts.take pre.length).findSome? (yz N d)=none /\
   ∃ a b c e g x y,ρ=[("times",some (.ref tl)),("of",some (.ref f)),("number",a),("at",b),("given",c),("there",e),("op",g),("other",x),("one",y)])
  ⟨Le.refl,rfl,_,_,_,_,_,_,_,rfl⟩ (fun pre ρ st' h=>jh (h.1 _ _ hm)) ?_ ?_
 ·rintro pre r post eq ρ st2 ⟨l2,hn,a,b,c,e,g,x,y,rfl⟩ K' hK'
  have hri:rs[pre.length]? = some r:=by rw [eq];simp
  have hlt:pre.length<ts.length:=by rw [← hl];exact (List.getElem?_eq_some_iff.mp hri).1
  obtain ⟨t,ht⟩:∃ t,ts[pre.length]? = some t:=⟨_,List.getElem?_eq_getElem hlt⟩
  have htok:=hts t (List.mem_of_getElem? ht)
  obtain ⟨gv,th,q1,q2,q3⟩:=(he _ r t hri ht).le l2
  have hres:yr N d ts=(yz N d t).or ((ts.drop (pre.length+1)).findSome? (yz N d)):=by
   unfold yr
   have e1:ts=ts.take pre.length++t::ts.drop (pre.length+1):=by
    conv=>lhs;rw [← List.take_append_drop pre.length ts]
    rw [List.drop_eq_getElem_cons hlt,(List.getElem?_eq_some_iff.mp ht).2]
   exact yd e1 hn
  have hnext:yz N d t=none->(ts.take (pre++[r]).length).findSome? (yz N d)=none:=fun hx=>by
   rw [List.length_append,List.length_singleton,List.take_add_one,ht]
   exact yc hn hx
  refine G3 q1 rfl ?_
  have tail:∀ (x y:Option MV) (st3:St),Le st st3->(if decide (t.pos<0)||!t.given.isEmpty then Yv d (jn N t.all) else none)=none ->
    jG (Cl (n+2)) [.ife (.and (.isnn (.var "op")) (.cmp .eq (.sub (.var "op") (.int 0)) (.str "fix"))) [
    .fore (.one "one") (.of (.var "given")) [
     .ife (.cmp .ne (.comp (.var "source") (.one "source") (.of (.call "_law_reads" [(.var "op")])) (some (.cmp .eq (.sub (.var "of") (.var "source")) (.sub (.var "of") (.var "one"))))) (.list [])) [
      .ret (.tup [(.var "number"),(.var "at"),(.tup [(.var "one"),(.var "one")])])] [
]]] []] [("times",some (.ref tl)),("of",some (.ref f)),("number",some (.int (t.num:Nat))),("at",some (.int t.pos)),("given",some (.ref gv)),("there",some (.ref th)),("op",some (opv t.op)),("other",x),("one",y)] st3 K' K:=by
   intro x y st3 l3 hnc
   have hlt:yz N d t=(yV d t).map fun c=>(t.num,t.pos,c):=by unfold yz;rw [hnc,Option.none_or]
   obtain ⟨gv',th',p1,p2,p3⟩:=(he _ r t hri ht).le l3
   have hgeq:gv'=gv/\th'=th:=by
    obtain ⟨g0,t0,z1,z2,z3⟩:=he _ r t hri ht
    have w1:=l3 _ _ z1
    have w2:=l2 _ _ z1
    rw [p1] at w1;rw [q1] at w2
    exact ⟨(vY w1).1.trans (vY w2).1.symm,(vY w1).2.trans (vY w2).2.symm⟩
   obtain ⟨rfl,rfl⟩:=hgeq
   refine jm (ZL (VK rfl ?_))
   cases hto:t.op with
   |none =>
    refine Jn ?_
    l_ints
    refine hK' _ _ ⟨l3,hnext ?_,_,_,_,_,_,_,_,rfl⟩
    rw [hlt]
    have hfr:frO t.op=[]:=by rw [hto];rfl
    have:yV d t=none:=by
     unfold yV;rw [hfr]
     exact List.findSome?_eq_none_iff.mpr fun x _=>rfl
    rw [this];rfl
   |some o =>
    have hoo:=htok.op o hto
    cases hfx:o.isFix with
    |false =>
     rw [show XN (some o)=false from hfx]
     refine Jn ?_
     l_ints
     refine hK' _ _ ⟨l3,hnext ?_,_,_,_,_,_,_,_,rfl⟩
     rw [hlt]
     have hfr:frO t.op=[]:=by rw [hto];exact yN (by rw [hfx];decide)
     have:yV d t=none:=by
      unfold yV;rw [hfr]
      exact List.findSome?_eq_none_iff.mpr fun x _=>rfl
     rw [this];rfl
    |true =>
     rw [show XN (some o)=true from hfx]
     have hfr:frO t.op=o.reads:=by rw [hto];exact yM hfx
     refine X1 ?_
     l_ints
     refine lp (mv:=fun i:Nat=>MV.int (i:Int)) (fun pr ρ st'=>∀ G:ja->St->Prop,(Le st st'->st' gv'=some (.list (jc t.given))->((pr.findSome? fun one=>if ((frO t.op).filter fun s=>decide (pl d s=pl d one)).isEmpty then none else some (one,one))=none)->∀ y,G [("times",some (.ref tl)),("of",some (.ref f)),("number",some (.int (t.num:Nat))),("at",some (.int t.pos)),("given",some (.ref gv')),("there",some (.ref th')),("op",some o.mv),("other",x),("one",y)] st')->G ρ st')
       (fun _ k=>k l3 p2 rfl _) (fun pr ρ st' h=>h (fun _ t=>ji _ t) fun _ n1 _ _=>jh n1) ?_ ?_
     ·rintro pr one ps ec ρ st4 I3 K1 hK1
      apply I3;intro l4 g4 hnone y
      have hone:one<N:=htok.given one (by rw [ec];simp)
      have hcl:yV d t=(if ((frO t.op).filter fun s=>decide (pl d s=pl d one)).isEmpty then none else some (one,one)).or _:=yd ec hnone
      l_ints
      refine JJ (Nat.lt_trans hoo.2.2.1 (by decide)) (Nat.lt_trans hoo.2.2.2 (by decide)) fun q st5 l5 n5 hq=>?_
      have hf5:=l5 _ _ (l4 _ _ hf)
      refine j2 hq ?_
      refine cp (mv:=fun i:Nat=>MV.int (i:Int)) (fun _ st'=>st'=st5) (fun x=>if decide (pl d x=pl d one) then some (.int (x:Int)) else none) rfl (fun _ st' e=>by rw [e];exact jh hq) ?_ ?_
      ·rintro pre1 s post1 e1 st' rfl K2 hK2
       have hs:s<N:=hoo.1 s (by rw [e1];simp)
       l_ints
       refine s_d (f:=fun p:Nat=>.int (p:Nat)) (Or.inl hf5) (hd.get hs) ?_
       l_ints
       refine s_d (f:=fun p:Nat=>.int (p:Nat)) (Or.inl hf5) (hd.get hone) ?_
       refine GY (yQ (fun hn=>?_) fun hn=>?_)
       ·l_ints
        have z:=hK2 _ rfl
        rw [decide_eq_true hn] at z;exact z
       ·have z:=hK2 _ rfl
        rw [decide_eq_false hn] at z;exact z
      ·rintro st' rfl
       refine YD zv (Nat.lt_of_le_of_lt (List.length_filter_le ..) (Nat.lt_trans hoo.2.2.1 (by decide))) fun v st6 l6 n6 hv=>?_
       l_ints
       intro z st7 l7 n7 hz
       refine G5 (l7 _ _ hv) hz ?_
       rw [JC,← hfr]
       have L7:=l4.trans (l5.trans (l6.trans l7))
       refine JV (fun hb=>?_) fun hb=>?_
       ·l_ints
        have z:=hk _ L7
        rw [hres,hlt,hcl,if_neg (by simpa using hb)] at z;exact z
       ·l_ints
        refine hK1 _ _ (fun _ k=>k L7 ((l6.trans l7) _ _ (l5 _ _ g4)) (yc hnone (by rw [if_pos (by simpa using hb)])) _)
     ·rintro ρ st4 I3
      apply I3;intro l4 g4 hnone y
      l_ints
      refine hK' _ _ ⟨l4,hnext ?_,_,_,_,_,_,_,_,rfl⟩
      rw [hlt,show yV d t=none from hnone];rfl
  refine jm (ZL (jfD (Xp (ya rfl (zH (OC ?_))))))
  have hclash:∀ st3,Le st st3->(decide (t.pos<0)||!t.given.isEmpty)=true->∀ (x y:Option MV),jG (Cl (n+2)) [.fore (.one "other") (.of (.var "there")) [
     .fore (.one "one") (.of (.var "there")) [
      .ife (.and (.cmp .lt (.var "one") (.var "other")) (.cmp .eq (.sub (.var "of") (.var "one")) (.sub (.var "of") (.var "other")))) [
       .ret (.tup [(.var "number"),(.var "at"),(.tup [(.var "one"),(.var "other")])])] []]]]
     [("times",some (.ref tl)),("of",some (.ref f)),("number",some (.int (t.num:Nat))),("at",some (.int t.pos)),("given",some (.ref gv)),("there",some (.ref th)),("op",some (opv t.op)),("other",x),("one",y)] st3
     (fun ρ' st'=>jG (Cl (n+2)) [.ife (.and (.isnn (.var "op")) (.cmp .eq (.sub (.var "op") (.int 0)) (.str "fix"))) [
    .fore (.one "one") (.of (.var "given")) [
     .ife (.cmp .ne (.comp (.var "source") (.one "source") (.of (.call "_law_reads" [(.var "op")])) (some (.cmp .eq (.sub (.var "of") (.var "source")) (.sub (.var "of") (.var "one"))))) (.list [])) [
      .ret (.tup [(.var "number"),(.var "at"),(.tup [(.var "one"),(.var "one")])])] []]] []] ρ' st' K' K) K:=by
   intro st3 l3 hcond x y
   have hth3:st3 th=some (.list (jc (jn N t.all))):=by
    obtain ⟨g0,t0,z1,z2,z3⟩:=he _ r t hri ht
    have w2:=l2 _ _ z1
    rw [q1] at w2
    rw [(vY w2).2];exact l3 _ _ z3
   have hf3:=l3 _ _ hf
   have hw0:∀ c,Yv d (jn N t.all)=some c->yr N d ts=some (t.num,t.pos,c):=fun c hc=>by
    rw [hres];unfold yz;rw [if_pos hcond,hc];rfl
   l_ints
   refine lp (mv:=fun i:Nat=>MV.int (i:Int)) (fun pr ρ st'=>∀ G:ja->St->Prop,(((pr.findSome? fun other=>(jn N t.all).findSome? fun one=>if decide (one<other)&&decide (pl d one=pl d other) then some (one,other) else none)=none)->∀ x y,G [("times",some (.ref tl)),("of",some (.ref f)),("number",some (.int (t.num:Nat))),("at",some (.int t.pos)),("given",some (.ref gv)),("there",some (.ref th)),("op",some (opv t.op)),("other",x),("one",y)] st3)->G ρ st')
     (fun _ k=>k rfl _ _) (fun pr ρ st' h=>h (fun _ t=>ji _ t) fun _ _ _=>jh (hth3)) ?_ ?_
   ·rintro pr other ps ec ρ st' I2 K1 hK1
    apply I2;intro hnone x y
    have hoth:other<N:=yT (m:=t.all) (by rw [ec];simp)
    have hcl:Yv d (jn N t.all)=((jn N t.all).findSome? fun one=>if decide (one<other)&&decide (pl d one=pl d other) then some (one,other) else none).or _:=yd ec hnone
    l_ints
    refine lp (mv:=fun i:Nat=>MV.int (i:Int)) (fun pr2 ρ st2=>∀ G:ja->St->Prop,(((pr2.findSome? fun one=>if decide (one<other)&&decide (pl d one=pl d other) then some (one,other) else none)=none)->∀ y,G [("times",some (.ref tl)),("of",some (.ref f)),("number",some (.int (t.num:Nat))),("at",some (.int t.pos)),("given",some (.ref gv)),("there",some (.ref th)),("op",some (opv t.op)),("other",some (.int (other:Nat))),("one",y)] st3)->G ρ st2)
      (fun _ k=>k rfl _) (fun pr ρ st' h=>h (fun _ t=>ji _ t) fun _ _=>jh (hth3)) ?_ ?_
    ·rintro pr2 one ps2 ec2 ρ st2 I1 K2 hK2
     apply I1;intro hnone2 y
     have hone:one<N:=yT (m:=t.all) (by rw [ec2];simp)
     have hin:((jn N t.all).findSome? fun one=>if decide (one<other)&&decide (pl d one=pl d other) then some (one,other) else none)=(if decide (one<other)&&decide (pl d one=pl d other) then some (one,other) else none).or _:=yd ec2 hnone2
     have hdd:decide ((one:Int)<(other:Int))=decide (one<other):=by rw [Bool.eq_iff_iff,decide_eq_true_eq,decide_eq_true_eq];exact Int.ofNat_lt
     l_ints
     refine OC ?_
     rw [hdd]
     refine ql (decide (pl d one=pl d other)) (fun _ K3 hK3=>?_) ?_
     ·l_ints
      refine s_d (f:=fun p:Nat=>.int (p:Nat)) (Or.inl hf3) (hd.get hone) ?_
      l_ints
      refine s_d (f:=fun p:Nat=>.int (p:Nat)) (Or.inl hf3) (hd.get hoth) ?_
      exact GY hK3
     ·refine JV (fun hb=>?_) fun hb=>?_
      ·l_ints
       have z:=hk _ l3
       rw [hw0 (one,other) (by rw [hcl,hin,if_pos hb];rfl)] at z;exact z
      ·l_ints
       exact hK2 _ _ (fun _ k=>k (yc hnone2 (by rw [if_neg (by rw [hb];decide)])) _)
    ·rintro ρ st2 I1
     apply I1;intro hnone2 y
     l_ints
     exact hK1 _ _ (fun _ k=>k (yc hnone hnone2) _ _)
   ·rintro ρ st' I2
    apply I2;intro hnone x y
    refine j6 (tail _ _ _ l3 ?_)
    rw [if_pos hcond];exact hnone
  refine ⟨_,rfl,uL (fun hp=>?_) fun hp=>?_⟩
  ·exact X1 (hclash _ l2 (by rw [decide_eq_true hp];rfl) _ _)
  ·refine Xp (ya rfl (qN (Jc (lb0 (al fun z st3 l3 n3 hz=>?_)))))
   refine G5 (l3 _ _ q2) hz ?_
   rw [JC]
   refine JV (fun hb=>?_) fun hb=>?_
   ·exact hclash _ (l2.trans l3) (by rw [hb,Bool.or_true]) _ _
   ·refine j6 (tail _ _ _ (l2.trans l3) ?_)
    rw [if_neg (by rw [hb,decide_eq_false hp];decide)]
 ·rintro ρ st2 ⟨l2,hn,a,b,c,e,g,x,y,rfl⟩
  l_ints
  have z:=hk _ l2
  rw [hl,List.take_length] at hn
  unfold yr at z
  rw [hn] at z;exact z
noncomputable def yB(U:Un):List Nat:=U.blocks.flatMap fun B=>B.params++B.ops.flatMap Op.writes
theorem vI{U:Un}(ho:jy U):U.entry.length+(yB U).length=U.count:=by
 have:=congrArg List.length ho.ord
 unfold gvs at this
 rwa [List.length_append,List.length_range] at this
theorem Ja{U:Un}{beg beg':List Nat}(h:yg U beg)(h':yg U beg'):beg=beg':=by
 refine List.ext_getElem? fun i=>?_
 by_cases hi:i<U.blocks.length
 ·have e1:beg[i]? = some (beg[i]'(by rw [h.len];exact hi)):=List.getElem?_eq_getElem _
  have e2:beg'[i]? = some (beg'[i]'(by rw [h'.len];exact hi)):=List.getElem?_eq_getElem _
  have:(beg[i]?).getD 0=(beg'[i]?).getD 0:=Nat.eq_of_testBit_eq fun r=>by
   rw [Bool.eq_iff_iff,h.bit i r hi,h'.bit i r hi]
  rw [e1,e2] at this ⊢
  exact congrArg some this
 ·rw [List.getElem?_eq_none (by rw [h.len];w_up),List.getElem?_eq_none (by rw [h'.len];w_up)]
theorem Xa{n u:Nat}{U:Un}{st:St}{K:MV->St->Prop}(hu:UnAt st u U)(ho:jy U)(hk:Ret st (.list (jc (yB U))) K):Cl (n+2) "_law_order" [.ref u] st K:=by
 refine jr (fn:=fn_law_order) (by decide) rfl rfl ?_
 unfold fn_law_order
 one_place
 obtain ⟨d,e,bl,qs,h1,h2,h3,h4,h5⟩:=hu.qs
 have hlen:=vI ho
 have hN:=ho.cnt
 have hU:(qs.map fun q:Nat×Bk×Nat=>q.2.1)=U.blocks:=by
  have:=congrArg (List.map Prod.fst) h4
  rw [List.map_map] at this
  have e2:U.blocks.zipIdx.map Prod.fst=U.blocks:=by rw [List.zipIdx_map_fst]
  rw [e2] at this;exact this
 l_ints
 intro f st1 l1 n1 hf
 have h1':=l1 _ _ h1
 have h3':=l1 _ _ h3
 l_ints
 refine lp (mv:=fun q:Nat×Bk×Nat=>MV.ref q.1) (fun pre ρ st'=>Le st st'/\(∃ f,st f=none/\st' f=some (.list (jc ((pre.map fun q:Nat×Bk×Nat=>q.2.1).flatMap fun B=>B.params++B.ops.flatMap Op.writes))) /\
   ∃ y z,ρ=[("unit",some (.ref u)),("found",some (.ref f)),("own",y),("op",z)]))
  ⟨l1,f,n1,hf,_,_,rfl⟩ (fun pre ρ st' h=>jh (h.1 _ _ h3)) ?_ ?_
 ·rintro pre q post eq ρ st4 ⟨l4,f,n0f,hA,y,z,rfl⟩ K' hK'
  obtain ⟨b,B,i⟩:=q
  have hm:(b,B,i)∈qs:=by rw [eq];simp
  have hBi:=YX h4 hm
  have hBok:=ho.blk B (List.mem_of_getElem? hBi)
  obtain ⟨db,pb,ob,hb2,hb3,hb4⟩:=h5 _ hm
  simp only at hb2 hb3 hb4
  have hb2':=l4 _ _ hb2
  have hb3':=l4 _ _ hb3
  have hsub:((pre.map fun q:Nat×Bk×Nat=>q.2.1).flatMap fun B=>B.params++B.ops.flatMap Op.writes).length+(B.params++B.ops.flatMap Op.writes).length≤(yB U).length:=by
   unfold yB
   rw [← hU,eq,List.map_append]
   exact YK
  rw [List.length_append] at hsub
  generalize hcur:((pre.map fun q:Nat×Bk×Nat=>q.2.1).flatMap fun B=>B.params++B.ops.flatMap Op.writes)=cur at *
  l_ints
  refine xx hA hb3' (by rw [je,je];unfold jb;w_up) fun f2 st5 l5 n5 hf2=>?_
  rw [js] at hf2
  have L5:=l4.trans l5
  have hb2x:=L5 _ _ hb2
  have hb4x:=L5 _ _ hb4
  l_ints
  refine lp (mv:=Op.mv) (fun pr ρ st'=>Le st st'/\(∃ f,st f=none/\st' f=some (.list (jc ((cur++B.params)++pr.flatMap Op.writes))) /\
    ∃ z,ρ=[("unit",some (.ref u)),("found",some (.ref f)),("own",some (.ref b)),("op",z)]))
   ⟨L5,f2,l4.back n5,by rw [List.flatMap_nil,List.append_nil];exact hf2,_,rfl⟩ (fun pr ρ st' h=>jh (h.1 _ _ hb4)) ?_ ?_
  ·rintro pr o ps ec ρ st7 ⟨l7,f3,n3,h9,z,rfl⟩ K1 hK1
   have hoo:=hBok.ops o (by rw [ec];simp)
   have hsub2:=YK (f:=Op.writes) (pre:=pr) (post:=ps) (x:=o)
   rw [← ec] at hsub2
   l_ints
   refine yU (Nat.lt_trans hoo.2.2.2 (by decide)) fun w st8 l8 n8 hw=>?_
   refine xx (l8 _ _ h9) hw (by rw [je,je,List.length_append,List.length_append];unfold jb;w_up) fun f4 st9 l9 n9 hf4=>?_
   l_ints
   refine hK1 _ _ ⟨l7.trans (l8.trans l9),f4,l7.back (l8.back n9),?_,_,rfl⟩
   rw [js] at hf4
   rw [yx,← List.append_assoc];exact hf4
  ·rintro ρ st7 ⟨l7,f3,n3,h9,z,rfl⟩
   l_ints
   refine hK' _ _ ⟨l7,f3,n3,?_,_,_,rfl⟩
   rw [List.map_append,List.flatMap_append,hcur]
   simp only [List.map_cons,List.map_nil,List.flatMap_cons,List.flatMap_nil,List.append_nil]
   rw [← List.append_assoc]
   exact h9
 ·rintro ρ st4 ⟨l4,f,n0f,hA,y,z,rfl⟩
  l_ints
  rw [hU] at hA
  exact hk f st4 l4 n0f hA
theorem jfv{x y:Option (Nat×Int×Nat×Nat)}{st:St}{B:Bool->Prop}(k:B (decide (x=y))):yo .eq (wmv x) (wmv y) st B:=by
 cases x with
 |none =>
  cases y with
  |none=>exact CmpR.eq (EqR.nn k)
  |some y=>exact CmpR.eq (EqR.nt k)
 |some x =>
  cases y with
  |none=>exact CmpR.eq (EqR.tn k)
  |some y =>
   obtain ⟨a,b,c,d⟩:=x
   obtain ⟨a',b',c',d'⟩:=y
   refine CmpR.eq (EqR.tup ?_)
   have e:((a:Int)=(a':Int)/\b=b'/\(c:Int)=(c':Int)/\(d:Int)=(d':Int))=(some (a,b,c,d)=some (a',b',c',d')):=propext (by
    simp only [Option.some.injEq,Prod.mk.injEq]
    constructor
    ·rintro ⟨h1,h2,h3,h4⟩;exact ⟨by w_up,h2,by w_up,by w_up⟩
    ·rintro ⟨h1,h2,h3,h4⟩;exact ⟨by w_up,h2,by w_up,by w_up⟩)
   simp only [e];exact k
theorem gH(x:Option (Nat×Int×Nat×Nat)):isNone (wmv x)=x.isNone:=by
 cases x with
 |none=>rfl
 |some x=>obtain ⟨a,b,c,d⟩:=x;rfl
noncomputable def J4(U:Un)(d:PD)(c:Nat)(due:Option (Nat×Int×Nat×Nat)):Bool :=
 due.isNone&&(decide (U.entry.map (pl d)=List.range U.entry.length)&&(((List.range U.count).filter fun r=>!decide (pl d r<c)).isEmpty))
theorem ze{n u tl f c:Nat}{U:Un}{beg:List Nat}{d:PD}{st:St}{K:MV->St->Prop}(hu:UnAt st u U)(ho:jy U)(hb:yg U beg)(ht:TsAt U.count st tl (tms U beg))(hf:st f=some (.idict (dP d)))(hd:Total U.count d)
  (hk:∀ st',Le st st'->K (.bool (decide (y2 U beg d=yr U.count d (tms U beg))&&(j1 U beg d c==J4 U d c (yr U.count d (tms U beg))))) st') :
  Cl (n+8) "_law_is_told_right" [.ref u,.ref tl,.ref f,.int c] st K:=by
 refine jr (fn:=fn_law_is_told_right) (by decide) rfl rfl ?_
 unfold fn_law_is_told_right
 one_place
 obtain ⟨du,e,bl,qs,h1,h2,h3,h4,h5⟩:=hu.qs
 have hN:=ho.cnt
 have hel:=ho.entl
 l_ints
 refine v6 ht hN (Xn ho hb) hf hd fun st1 l1=>?_
 generalize hdue:yr U.count d (tms U beg)=due at *
 have h1':=l1 _ _ h1
 have h2':=l1 _ _ h2
 have hf1:=l1 _ _ hf
 have rest:∀ (x:Bool) (st2:St),Le st st2->x=(due.isNone&&decide (U.entry.map (pl d)=List.range U.entry.length)) ->
   jG (Cl (n+7)) [.assign (.var "is_right") (.and (.var "is_right") (.cmp .eq (.comp (.var "one") (.one "one") (.range (.attr (.var "unit") "count")) (some (.not (.cmp2 .le .lt (.int 0) (.sub (.var "of") (.var "one")) (.var "count"))))) (.list []))),
    .ret (.and (.cmp .eq (.call "wrong_pair" [(.var "unit"),(.var "of")]) (.var "due")) (.cmp .eq (.call "lives_apart" [(.var "unit"),(.call "Places" [(.var "of"),(.var "count")])]) (.var "is_right")))]
    [("unit",some (.ref u)),("times",some (.ref tl)),("of",some (.ref f)),("count",some (.int (c:Nat))),("due",some (wmv due)),("is_right",some (.bool x))] st2 (fun _ st'=>K .none st') K:=by
  intro x st2 l2 hx
  have hf2:=l2 _ _ hf
  have h1x:=l2 _ _ h1
  have fin:∀ (y:Bool) (st3:St),Le st st3->y=J4 U d c due ->
    jG (Cl (n+7)) [.ret (.and (.cmp .eq (.call "wrong_pair" [(.var "unit"),(.var "of")]) (.var "due")) (.cmp .eq (.call "lives_apart" [(.var "unit"),(.call "Places" [(.var "of"),(.var "count")])]) (.var "is_right")))]
    [("unit",some (.ref u)),("times",some (.ref tl)),("of",some (.ref f)),("count",some (.int (c:Nat))),("due",some (wmv due)),("is_right",some (.bool y))] st3 (fun _ st'=>K .none st') K:=by
   intro y st3 l3 hy
   l_ints
   refine Y7 (hu.le l3) ho (l3 _ _ hf) hd fun beg' st4 l4 hb'=>?_
   have:=Ja hb hb';subst this
   l_ints
   refine jfv (JV (fun hw=>?_) fun hw=>?_)
   ·l_ints
    refine Jp fun p st5 l5 n5 hp=>?_
    l_ints
    have L5:=l3.trans (l4.trans l5)
    refine y9 (hu.le L5) ho hp (L5 _ _ hf) hd (fun beg' st6 l6 hb'=>?_) ⟨beg,hb⟩
    have:=Ja hb hb';subst this
    l_ints
    refine jgL ?_
    have z:=hk _ (L5.trans l6)
    rw [hw,Bool.true_and,← hy] at z;exact z
   ·have z:=hk _ (l3.trans l4)
    rw [hw,Bool.false_and] at z;exact z
  l_ints
  refine JV (fun hb=>?_) fun hb=>?_
  ·l_ints
   refine ⟨⟨Int.natCast_nonneg _,Int.ofNat_lt.mpr (Nat.lt_trans hN (by decide))⟩,?_⟩
   rw [Int.toNat_natCast]
   refine cp (mv:=fun i:Nat=>MV.int (i:Int)) (fun _ st'=>st'=st2) (fun x=>if !decide (pl d x<c) then some (.int (x:Int)) else none) rfl (fun _ _ _=>jH) ?_ ?_
   ·rintro pre1 s post1 e1 st' rfl K2 hK2
    have hs:s<U.count:=List.mem_range.mp (by rw [e1];simp)
    l_ints
    refine s_d (f:=fun p:Nat=>.int (p:Nat)) (Or.inl hf2) (hd.get hs) ?_
    refine jbQ ?_
    refine uL (fun _=>?_) fun hn=>absurd (Int.natCast_nonneg _) hn
    l_ints
    refine OC ?_
    have hdd:decide (((pl d s:Nat):Int)<(c:Int))=decide (pl d s<c):=by rw [Bool.eq_iff_iff,decide_eq_true_eq,decide_eq_true_eq];exact Int.ofNat_lt
    rw [hdd]
    refine ⟨_,rfl,JV (fun hb=>?_) fun hb=>?_⟩
    ·l_ints
     have z:=hK2 _ rfl
     rw [if_pos hb] at z;exact z
    ·have z:=hK2 _ rfl
     rw [if_neg (by rw [hb];decide)] at z;exact z
   ·rintro st' rfl
    refine YD zv (Nat.lt_of_le_of_lt (List.length_filter_le ..) (by rw [List.length_range];exact Nat.lt_trans hN (by decide))) fun v st6 l6 n6 hv=>?_
    l_ints
    intro z st7 l7 n7 hz
    refine jde (l7 _ _ hv) hz ?_
    rw [JC]
    refine gF (fin _ _ (l2.trans (l6.trans l7)) ?_)
    unfold J4
    rw [hb] at hx
    rw [← Bool.and_assoc,← hx,Bool.true_and]
  ·refine fin _ _ l2 ?_
   unfold J4
   rw [hb] at hx
   rw [← Bool.and_assoc,← hx,Bool.false_and]
 l_ints
 rw [gH]
 refine JV (fun hb2=>?_) fun hb2=>?_
 ·l_ints
  refine cp (mv:=fun i:Nat=>MV.int (i:Int)) (fun _ st'=>st'=st1) (fun x=>some (.int ((pl d x:Nat):Int))) rfl (fun _ st' e=>by rw [e];exact jh h2') ?_ ?_
  ·rintro pre1 s post1 e1 st' rfl K2 hK2
   have hs:s<U.count:=ho.ent s (by rw [e1];simp)
   l_ints
   refine s_d (f:=fun p:Nat=>.int (p:Nat)) (Or.inl hf1) (hd.get hs) ?_
   exact hK2 _ rfl
  ·rintro st' rfl
   refine YD (zz (f:=pl d)) (by rw [List.length_map];exact Nat.lt_trans hel (by decide)) fun v st6 l6 n6 hv=>?_
   have h1y:=l6 _ _ h1'
   have h2y:=l6 _ _ h2'
   l_ints
   refine Jq h2y ?_
   l_ints
   rw [je]
   refine ⟨⟨Int.natCast_nonneg _,Int.ofNat_lt.mpr (Nat.lt_trans hel (by decide))⟩,?_⟩
   rw [Int.toNat_natCast]
   refine ⟨by rw [List.length_map,List.length_range];exact Nat.lt_trans hel (by decide),al fun w st7 l7 n7 hw=>?_⟩
   refine jee (l7 _ _ hv) hw ?_
   exact gF (rest _ _ (l1.trans (l6.trans l7)) (by rw [hb2,Bool.true_and]))
 ·exact rest _ _ l1 (by rw [hb2,Bool.false_and])
noncomputable def yp(P:Nat->Nat->Bool)(d:PD)(ahead:List Nat)(one:Nat):List Nat:=(ahead.filter fun o=>P one o).map (pl d)
noncomputable def yq(d:PD)(ws:List (List Nat))(ahead taken:List Nat)(one:Nat):List Nat:=(((ws[one]?).getD []).filter fun o=>decide (o∈ahead)&&decide (pl d o∉taken)).map (pl d)
noncomputable def x8(N:Nat)(taken:List Nat):List Nat:=(List.range (N+1)).filter fun p=>decide (p∉taken)
noncomputable def xw(N:Nat)(P:Nat->Nat->Bool)(d:PD)(ws:List (List Nat))(ahead:List Nat)(one:Nat):Nat :=
 ((yq d ws ahead (yp P d ahead one) one++[((x8 N (yp P d ahead one))[0]?).getD 0])[0]?).getD 0
theorem UP{N:Nat}{P:Nat->Nat->Bool}{d:PD}{ahead:List Nat}{one:Nat}(h:ahead.length≤N):∃ p,(x8 N (yp P d ahead one))[0]? = some p:=by
 cases z:x8 N (yp P d ahead one) with
 |cons a as=>exact ⟨a,rfl⟩
 |nil =>
  have hsub:List.range (N+1) ⊆ yp P d ahead one:=fun p hp=>by
   refine Classical.byContradiction fun hn=>?_
   have:p∈x8 N (yp P d ahead one):=List.mem_filter.mpr ⟨hp,by simpa using hn⟩
   rw [z] at this;simp at this
  have h1:=List.Nodup.length_le_of_subset List.nodup_range hsub
  have h2:(yp P d ahead one).length≤ahead.length:=by
   unfold yp;rw [List.length_map];exact List.length_filter_le ..
  rw [List.length_range] at h1
  w_up
theorem xb{n u p f pr c:Nat}{U:Un}{d:PD}{P:Nat->Nat->Bool}{st:St}{K:MV->St->Prop}(hu:UnAt st u U)(ho:jy U)(hp:PlAt st p f c)(hf:st f=some (.idict (dP d)))(hd:Total U.count d)
  (hP:PairsAt U.count st pr P) (hpos:0<U.count) (hstep:∀ pre one post,yB U=pre++one::post->pl d one=xw U.count P d (jU U) (U.entry++pre) one)
  (hcnt:∀ m,m∈(List.range U.count).map (pl d)->(∀ y∈(List.range U.count).map (pl d),y≤m)->c=1+m)
  (hk:∀ st',Le st st'->K (.bool true) st'):Cl (n+3) "_law_are_places_right" [.ref u,.ref pr,.ref p] st K:=by
 refine jr (fn:=fn_law_are_places_right) (by decide) rfl rfl ?_
 unfold fn_law_are_places_right
 one_place
 obtain ⟨du,e,bl,qs,h1,h2,h3,h4,h5⟩:=hu.qs
 obtain ⟨dp,hp1⟩:=hp
 have hN:=ho.cnt
 have hlen:=vI ho
 l_ints
 refine ⟨⟨Int.natCast_nonneg _,Int.ofNat_lt.mpr (Nat.lt_trans hN (by decide))⟩,?_⟩
 rw [Int.toNat_natCast]
 refine vN jH (by rw [List.length_range];exact Nat.lt_trans hN (by decide)) fun fr rs st1 l1 n1 hL=>?_
 have h1':=l1 _ _ h1
 have h2':=l1 _ _ h2
 have hp1':=l1 _ _ hp1
 l_ints
 refine ⟨by rw [je];exact Nat.lt_trans ho.entl (by decide),al fun ah st2 l2 n2 hah=>?_⟩
 have hL2:=hL.le l2
 have l12:=l1.trans l2
 have hahn:ah∉rs:=hL.out n2
 have hahf:fr≠ah:=jw n2 hL.main
 have n0ah:=l1.back n2
 have h1'':=l12 _ _ h1
 have h3'':=l12 _ _ h3
 l_ints
 refine Qy rfl ?_
 l_ints
 refine Zj (st₀:=st) (f:=fun x y z=>[("unit",some (.ref u)),("pairs",some (.ref pr)),("answer",some (.ref p)),("wishes",some (.ref fr)),("of",some (.ref f)),("ahead",some (.ref ah)),("own",x),("source",y),("target",z),("one",none),("taken",none),("wished",none),("lowest",none)])
  ho (fun ρ st K k=>jbf k) h1 h3 h4 h5 rfl (fun _ _ _ _=>rfl) (fun _ _ _ _=>rfl) (fun _ _ _ _=>rfl)
  (fun _ _ _=>rfl) (fun _ _ _=>rfl) (fun _ _ _=>rfl) (fun _ _ _=>rfl) (fun _ _ _=>rfl) l12 hL2 fun x y z st3 l3 kx3 hL3=>?_
 have hah3:=kx3 _ _ hahn hah
 have hwl:(jU U).length=U.count:=by unfold jU;rw [Jz,List.length_map,List.length_range]
 have hwb:Jj 200000 (jU U):=yL (xp ho q8) (by have:=ho.nb;w_up)
 l_ints
 refine Xa (hu.le l3) ho fun lo st4 l4 n4 hlo=>?_
 have hah4:=l4 _ _ hah3
 have hloa:lo≠ah:=vA n4 hah3
 have L4:=l3.trans l4
 have hL4:=hL3.le l4
 refine j2 hlo ?_
 refine lp (mv:=fun i:Nat=>MV.int (i:Int)) (fun pre ρ st'=>∀ G:ja->St->Prop,(Le st st'->st' lo=some (.list (jc (yB U)))->LsAt st st' fr rs (jU U)->st' ah=some (.list (jc (U.entry++pre)))->∀ a b c2 o t w l,G [("unit",some (.ref u)),("pairs",some (.ref pr)),("answer",some (.ref p)),("wishes",some (.ref fr)),("of",some (.ref f)),("ahead",some (.ref ah)),("own",a),("source",b),("target",c2),("one",o),("taken",t),("wished",w),("lowest",l)] st')->G ρ st')
   (fun _ k=>k L4 hlo hL4 (by rw [List.append_nil];exact hah4) _ _ _ _ _ _ _) (fun pre ρ st' h=>h (fun _ t=>ji _ t) fun _ n1 _ _ _ _ _ _ _ _ _=>jh n1) ?_ ?_
 ·rintro pre one post eq ρ st5 I1 K' hK'
  apply I1;intro l5 lo5 hL5 ah5 a b c2 o t w l
  have hgv:∀ x∈U.entry++(pre++one::post),x<U.count:=fun x hx=>by
   refine GL ho x ?_
   have:gvs U=U.entry++yB U:=rfl
   rw [this,eq];exact hx
  have hone:one<U.count:=hgv one (by simp)
  have hahl:∀ x∈U.entry++pre,x<U.count:=fun x hx=>hgv x (by rcases List.mem_append.mp hx with hx | hx<;>simp [hx])
  have hpl:(U.entry++pre).length≤U.count:=by
   have:=congrArg List.length eq
   rw [List.length_append,List.length_cons] at this
   rw [List.length_append];w_up
  have hch:=hstep pre one post eq
  have hf5:=l5 _ _ hf
  have h1x:=l5 _ _ h1
  have hP5:=hP.le l5
  l_ints
  refine cp (mv:=fun i:Nat=>MV.int (i:Int)) (fun _ st'=>st'=st5) (fun x=>if P one x then some (.int ((pl d x:Nat):Int)) else none) rfl (fun _ st' e=>by rw [e];exact jh ah5) ?_ ?_
  ·rintro pre1 s post1 e1 st' rfl K2 hK2
   have hs:s<U.count:=hahl s (by rw [e1];simp)
   l_ints
   refine jdn hP5 (JV (fun hb=>?_) fun hb=>?_)
   ·l_ints
    refine s_d (f:=fun p:Nat=>.int (p:Nat)) (Or.inl hf5) (hd.get hs) ?_
    have z:=hK2 _ rfl
    rw [if_pos hb] at z;exact z
   ·have z:=hK2 _ rfl
    rw [if_neg (by rw [hb];decide)] at z;exact z
  rintro st' rfl
  refine YD (ns:=yp P d (U.entry++pre) one) (qh (f:=pl d) (p:=fun o=>P one o)) (by
   unfold yp;rw [List.length_map]
   exact Nat.lt_of_le_of_lt (List.length_filter_le ..) (by unfold jb;w_up)) fun tk st6 l6 n6 htk=>?_
  have hL6:=hL5.le l6
  have ah6:=l6 _ _ ah5
  have hf6:=l6 _ _ hf5
  obtain ⟨wr,wx,hwr,hwx,hwrx⟩:=hL6.get (i:=one) (by w_up)
  have hwx':((jU U)[one]?).getD []=wx:=by rw [hwx];rfl
  have hwxl:=hwb wx (List.mem_of_getElem? hwx)
  generalize htak:yp P d (U.entry++pre) one=taken at *
  l_ints
  refine s_l (v:=.ref wr) hL6.main (Yy hwr) ?_
  refine j2 hwrx ?_
  refine cp (mv:=fun i:Nat=>MV.int (i:Int)) (fun _ st'=>st'=st6) (fun x=>if (decide (x∈U.entry++pre)&&decide (pl d x∉taken)) then some (.int ((pl d x:Nat):Int)) else none) rfl (fun _ st' e=>by rw [e];exact jh hwrx) ?_ ?_
  ·rintro pre1 s post1 e1 st' rfl K2 hK2
   l_ints
   refine Vf ah6 ?_
   by_cases hin:s∈U.entry++pre
   ·have hs:s<U.count:=hahl s hin
    refine ql (decide (pl d s∉taken)) (fun _ K3 hK3=>?_) ?_
    ·l_ints
     refine s_d (f:=fun p:Nat=>.int (p:Nat)) (Or.inl hf6) (hd.get hs) ?_
     l_ints
     exact YZ htk hK3
    ·refine JV (fun hb=>?_) fun hb=>?_
     ·l_ints
      refine s_d (f:=fun p:Nat=>.int (p:Nat)) (Or.inl hf6) (hd.get hs) ?_
      have z:=hK2 _ rfl
      rw [if_pos hb] at z;exact z
     ·have z:=hK2 _ rfl
      rw [if_neg (by rw [hb];decide)] at z;exact z
   ·rw [decide_eq_false hin]
    refine Jn (Jn ?_)
    have z:=hK2 _ rfl
    rw [decide_eq_false hin,Bool.false_and,if_neg (by decide)] at z;exact z
  rintro st' rfl
  refine YD (ns:=yq d (jU U) (U.entry++pre) taken one) (by
    unfold yq;rw [hwx']
    exact qh (f:=pl d) (p:=fun x=>decide (x∈U.entry++pre)&&decide (pl d x∉taken))) (by
   unfold yq;rw [List.length_map,hwx']
   exact Nat.lt_of_le_of_lt (List.length_filter_le ..) (by unfold jb;w_up)) fun wd st7 l7 n7 hwd=>?_
  have htk7:=l7 _ _ htk
  have h1y:=l7 _ _ (l6 _ _ h1x)
  l_ints
  refine ⟨⟨Int.natCast_nonneg _,Int.ofNat_lt.mpr (by unfold jb;w_up)⟩,?_⟩
  rw [Int.toNat_natCast]
  refine cp (mv:=fun i:Nat=>MV.int (i:Int)) (fun _ st'=>st'=st7) (fun x=>if decide (x∉taken) then some (.int (x:Int)) else none) rfl (fun _ _ _=>jH) ?_ ?_
  ·rintro pre1 s post1 e1 st' rfl K2 hK2
   l_ints
   refine YZ htk7 ?_
   refine yQ (fun hn=>?_) fun hn=>?_
   ·l_ints
    have z:=hK2 _ rfl
    rw [decide_eq_true hn] at z;exact z
   ·have z:=hK2 _ rfl
    rw [decide_eq_false hn] at z;exact z
  rintro st' rfl
  refine YD (ns:=x8 U.count taken) zv (by
   unfold x8
   exact Nat.lt_of_le_of_lt (List.length_filter_le ..) (by rw [List.length_range];unfold jb;w_up)) fun fl st8 l8 n8 hfl=>?_
  obtain ⟨low,hlow⟩:=UP (P:=P) (d:=d) (one:=one) hpl
  rw [htak] at hlow
  have L58:=l6.trans (l7.trans l8)
  have hf8:=L58 _ _ hf5
  have hwd8:=l8 _ _ hwd
  l_ints
  refine zl hfl (j9 hlow) ?_
  l_ints
  refine s_d (f:=fun p:Nat=>.int (p:Nat)) (Or.inl hf8) (hd.get hone) ?_
  l_ints
  intro z9 st9 l9 n9 hz9
  have hwl2:(yq d (jU U) (U.entry++pre) taken one).length≤200000:=by
   unfold yq;rw [List.length_map,hwx']
   exact Nat.le_trans (List.length_filter_le ..) hwxl
  refine xx (l9 _ _ hwd8) hz9 (by rw [je];simp only [List.length_singleton];unfold jb;w_up) fun s10 st10 l10 n10 h10=>?_
  have h10:st10 s10=some (.list (jc (yq d (jU U) (U.entry++pre) taken one++[low]))):=by rw [h10,← js];rfl
  have hch2:(yq d (jU U) (U.entry++pre) taken one++[low])[0]? = some (pl d one):=by
   rw [hch];unfold xw
   rw [htak,hlow,Option.getD_some]
   cases yq d (jU U) (U.entry++pre) taken one<;>rfl
  have ah10:=l10 _ _ (l9 _ _ (L58 _ _ ah5))
  have lo10:=l10 _ _ (l9 _ _ (L58 _ _ lo5))
  have hL10:=(hL5.le L58).le (Le.trans l9 l10)
  l_ints
  refine zl h10 (j9 hch2) ?_
  refine QZ (yQ (fun hne=>absurd rfl hne) fun _=>?_)
  l_ints
  refine ⟨jJ ah10,?_⟩
  l_ints
  refine jI ah10 ah10 (by rw [je];unfold jb;w_up) fun st11 l11 ah11=>⟨rfl,?_⟩
  l_ints
  refine hK' _ _ (fun _ k=>k ((l5.trans (L58.trans (l9.trans l10))).lx n0ah l11) (lxg l11 hloa lo10) ?_ ?_ _ _ _ _ _ _ _)
  ·exact ⟨lxg l11 hahf hL10.main,hL10.len,hL10.nd,hL10.new,hL10.off,fun i r xs a b=>lxg l11 (fun e=>hahn (by rw [← e];exact List.mem_of_getElem? a)) (hL10.each i r xs a b)⟩
  ·rw [ah11,← List.append_assoc,← js (U.entry++pre)];rfl
 ·rintro ρ st5 I1
  apply I1;intro l5 lo5 hL5 ah5 a b c2 o t w l
  have hf5:=l5 _ _ hf
  have h1x:=l5 _ _ h1
  have hpx:=l5 _ _ hp1
  l_ints
  refine ⟨⟨Int.natCast_nonneg _,Int.ofNat_lt.mpr (Nat.lt_trans hN (by decide))⟩,?_⟩
  rw [Int.toNat_natCast]
  refine cp (mv:=fun i:Nat=>MV.int (i:Int)) (fun _ st'=>st'=st5) (fun x=>some (.int ((pl d x:Nat):Int))) rfl (fun _ _ _=>jH) ?_ ?_
  ·rintro pre1 s post1 e1 st' rfl K2 hK2
   have hs:s<U.count:=List.mem_range.mp (by rw [e1];simp)
   l_ints
   refine s_d (f:=fun p:Nat=>.int (p:Nat)) (Or.inl hf5) (hd.get hs) ?_
   exact hK2 _ rfl
  rintro st' rfl
  refine YD (zz (f:=pl d)) (by rw [List.length_map,List.length_range];exact Nat.lt_trans hN (by decide)) fun v st6 l6 n6 hv=>?_
  l_ints
  refine jbz hv (fun e=>?_) fun m hm hmax=>?_
  ·have:=congrArg List.length e
   rw [List.length_map,List.length_range] at this
   simp at this;w_up
  refine Q2 (vm ?_)
  have:=hcnt m hm hmax
  have he:(c:Int)=1+(m:Int):=by w_up
  rw [decide_eq_true he]
  exact hk _ (l5.trans l6)
def mb(ms:List Nat)(x y:Nat):Prop:=((ms[x]?).getD 0).testBit y=true
theorem jaB{ms:List Nat}{i v x y:Nat}(hi:i<ms.length):mb (ms.set i ((ms[i]?).getD 0 ||| v)) x y↔mb ms x y\/(x=i/\v.testBit y=true):=by
 unfold mb
 rw [YA hi]
 by_cases e:i=x
 ·subst e
  rw [if_pos rfl,Nat.testBit_or,Bool.or_eq_true]
  simp
 ·rw [if_neg e]
  constructor
  ·exact Or.inl
  ·rintro (h | ⟨h,_⟩)
   ·exact h
   ·exact absurd h.symm e
theorem u7{r:Nat}:∀ {xs ms:List Nat}{x y:Nat},(∀ i∈xs,i<ms.length)->(mb (xs.foldl (fun ms x=>ms.set x ((ms[x]?).getD 0 ||| 2 ^ r)) ms) x y↔mb ms x y\/(x∈xs/\y=r))
 |[],ms,x,y,_=>by simp
 |i::xs,ms,x,y,h=>by
  have hi:=h i (List.mem_cons_self ..)
  rw [List.foldl_cons,u7 (fun j hj=>by rw [List.length_set];exact h j (List.mem_cons_of_mem _ hj)),jaB hi,vz]
  simp only [decide_eq_true_eq,List.mem_cons]
  constructor
  ·rintro ((h | ⟨h1,h2⟩) | ⟨h1,h2⟩)
   ·exact Or.inl h
   ·exact Or.inr ⟨Or.inl h1,h2.symm⟩
   ·exact Or.inr ⟨Or.inr h1,h2⟩
  ·rintro (h | ⟨h1 | h1,h2⟩)
   ·exact Or.inl (Or.inl h)
   ·exact Or.inl (Or.inr ⟨h1,h2.symm⟩)
   ·exact Or.inr ⟨h1,h2⟩
theorem jeA{N r mask x y:Nat}{ms:List Nat}(hl:ms.length=N)(hr:r<N)(hm:mask<2 ^ N):mb (zD N ms r mask) x y↔mb ms x y\/(x=r/\mask.testBit y=true/\y≠r)\/(y=r/\mask.testBit x=true/\x≠r):=by
 unfold zD
 rw [u7 (fun i hi=>by rw [List.length_set,hl];exact yT hi),jaB (by w_up)]
 have hb:∀ z,(wo mask (2 ^ r)).testBit z=true↔mask.testBit z=true/\z≠r:=fun z=>by
  rw [Gs,vz]
  simp only [decide_eq_true_eq]
  exact ⟨fun ⟨a,b⟩=>⟨a,fun e=>b e.symm⟩,fun ⟨a,b⟩=>⟨a,fun e=>b e.symm⟩⟩
 have hbits:x∈jn N (wo mask (2 ^ r))↔mask.testBit x=true/\x≠r:=by
  unfold jn
  rw [List.mem_filter,List.mem_range,hb]
  constructor
  ·exact fun h=>h.2
  ·rintro ⟨h1,h2⟩
   refine ⟨Nat.lt_of_not_le fun hn=>?_,h1,h2⟩
   rw [Nat.testBit_lt_two_pow (Nat.lt_of_lt_of_le hm (Nat.pow_le_pow_right (by decide) hn))] at h1
   cases h1
 rw [hb,hbits]
 constructor
 ·rintro ((h | h) | ⟨h1,h2⟩)
  ·exact Or.inl h
  ·exact Or.inr (Or.inl h)
  ·exact Or.inr (Or.inr ⟨h2,h1⟩)
 ·rintro (h | h | ⟨h1,h2⟩)
  ·exact Or.inl (Or.inl h)
  ·exact Or.inl (Or.inr h)
  ·exact Or.inr ⟨h2,h1⟩
theorem Uc{N mask x y:Nat}(hm:mask<2 ^ N):∀ {rs ms:List Nat},ms.length=N->(∀ r∈rs,r<N)->(mb (yZ N ms rs mask) x y↔mb ms x y\/∃ r∈rs,(x=r/\mask.testBit y=true/\y≠r)\/(y=r/\mask.testBit x=true/\x≠r))
 |[],ms,_,_=>by simp [yZ]
 |r::rs,ms,hl,h=>by
  show mb (yZ N (zD N ms r mask) rs mask) x y↔_
  rw [Uc hm (by rw [Zs];exact hl) (fun z hz=>h z (List.mem_cons_of_mem _ hz)),jeA hl (h r (List.mem_cons_self ..)) hm,or_assoc]
  simp only [List.mem_cons,exists_eq_or_imp]
theorem jaD{N x y:Nat}:∀ {ts:List Tm}{ms:List Nat},ms.length=N->(∀ t∈ts,TmOk N t)->(mb (ts.foldl (qA N) ms) x y↔mb ms x y\/∃ t∈ts,∃ r∈t.given,(x=r/\t.am.testBit y=true/\y≠r)\/(y=r/\t.am.testBit x=true/\x≠r))
 |[],ms,_,_=>by simp
 |t::ts,ms,hl,h=>by
  have ht:=h t (List.mem_cons_self ..)
  rw [List.foldl_cons,jaD (by unfold qA;rw [y7];exact hl) (fun z hz=>h z (List.mem_cons_of_mem _ hz))]
  unfold qA
  rw [Uc ht.am hl ht.given,or_assoc]
  simp only [List.mem_cons,exists_eq_or_imp]
theorem YL{N z:Nat}{t:Tm}(h:TmOk N t):z∈Jk N t↔t.am.testBit z=true:=by
 unfold Jk jn
 rw [List.mem_append,List.mem_filter,List.mem_range]
 have hall:(z<N/\t.all.testBit z=true)↔t.all.testBit z=true:=by
  constructor
  ·exact fun h=>h.2
  ·intro h1
   refine ⟨Nat.lt_of_not_le fun hn=>?_,h1⟩
   rw [Nat.testBit_lt_two_pow (Nat.lt_of_lt_of_le h.all (Nat.pow_le_pow_right (by decide) hn))] at h1
   cases h1
 rw [hall]
 cases ho:t.op with
 |none =>
  have:t.am=t.all:=by unfold Tm.am;rw [ho]
  rw [this];simp [frO]
 |some o =>
  obtain ⟨num,pos,given,all,op⟩:=t
  simp only at ho hall
  subst ho
  cases hf:o.isFix with
  |true=>rw [jgf hf,Nat.testBit_or,Bool.or_eq_true,maskOf_bit,show frO (some o)=o.reads from yM hf]
  |false =>
   have hf':¬ o.isFix=true:=by rw [hf];decide
   rw [jgp hf',show frO (some o)=[] from yN hf'];simp
theorem J8{N x y:Nat}{ts:List Tm}:jx N ts x y=true↔∃ t∈ts,∃ one∈t.given,∃ other∈Jk N t,one≠other/\((x=one/\y=other)\/(x=other/\y=one)):=by
 unfold jx Z6 jS QS
 simp only [List.any_eq_true,Bool.and_eq_true,Bool.or_eq_true,decide_eq_true_eq]
theorem J1{U:Un}{beg:List Nat}(ho:jy U)(hb:yg U beg){x y:Nat}:(((jA U beg)[x]?).getD 0).testBit y=jx U.count (tms U beg) x y:=by
 have hts:=Xn ho hb
 rw [Bool.eq_iff_iff]
 show mb (jA U beg) x y↔_
 unfold jA
 rw [jaD List.length_replicate hts,J8]
 have h0:¬ mb (List.replicate U.count 0) x y:=by unfold mb;rw [Xd];simp
 constructor
 ·rintro (h | ⟨t,ht,r,hr,⟨rfl,h1,h2⟩ | ⟨rfl,h1,h2⟩⟩)
  ·exact absurd h h0
  ·exact ⟨t,ht,x,hr,y,(YL (hts t ht)).mpr h1,Ne.symm h2,Or.inl ⟨rfl,rfl⟩⟩
  ·exact ⟨t,ht,y,hr,x,(YL (hts t ht)).mpr h1,Ne.symm h2,Or.inr ⟨rfl,rfl⟩⟩
 ·rintro ⟨t,ht,one,hone,other,hoth,hne,⟨rfl,rfl⟩ | ⟨rfl,rfl⟩⟩
  ·exact Or.inr ⟨t,ht,x,hone,Or.inl ⟨rfl,(YL (hts t ht)).mp hoth,Ne.symm hne⟩⟩
  ·exact Or.inr ⟨t,ht,y,hone,Or.inr ⟨rfl,(YL (hts t ht)).mp hoth,Ne.symm hne⟩⟩
theorem Qk{N x y:Nat}{ts:List Tm}(h:jx N ts x y=true):jx N ts y x=true:=by
 rw [J8] at h ⊢
 obtain ⟨t,ht,one,h1,other,h2,h3,h4⟩:=h
 exact ⟨t,ht,one,h1,other,h2,h3,h4.elim (fun h=>Or.inr ⟨h.2,h.1⟩) fun h=>Or.inl ⟨h.2,h.1⟩⟩
theorem VY{N m:Nat}:(jn N m).Pairwise (· < ·):=List.pairwise_lt_range.filter _
noncomputable def cg(d:PD)(other one:Nat):Option (Nat×Nat):=if decide (one<other)&&decide (pl d one=pl d other) then some (one,other) else none
theorem zE{α β:Type}{g:α->Option β}{q:α}{v:β}:∀ {xs:List α},q∈xs->g q=some v->(∀ x∈xs,x=q\/g x=none)->xs.findSome? g=some v
 |[],h,_,_=>by simp at h
 |x::xs,h,hv,hn=>by
  rw [List.findSome?_cons]
  rcases hn x (List.mem_cons_self ..) with e | e
  ·rw [e,hv]
  ·rw [e]
   rcases List.mem_cons.mp h with e' | h
   ·rw [← e',hv] at e;cases e
   ·exact zE h hv fun y hy=>hn y (List.mem_cons_of_mem _ hy)
set_option tactic.hygienic true in
theorem vP{d:PD}{all:List Nat}(hs:all.Pairwise (· < ·)):∀ (rest pre:List Nat) (met:PD),all=pre++rest->(∀ p q,lkN met p=some q↔q∈pre/\pl d q=p) ->
  xO d rest met=rest.findSome? fun other=>all.findSome? (cg d other)
 |[],pre,met,_,_=>rfl
 |r::rest,pre,met,e,hm=>by
  rw [List.findSome?_cons]
  unfold xO
  have hlt:∀ x∈pre,x<r:=fun x hx=>by
   rw [e,List.pairwise_append] at hs
   exact hs.2.2 x hx r (List.mem_cons_self ..)
  have hge:∀ x∈rest,r<x:=fun x hx=>by
   rw [e,List.pairwise_append,List.pairwise_cons] at hs
   exact hs.2.1.1 x hx
  cases hq:lkN met (pl d r) with
  |some q =>
   obtain ⟨h1,h2⟩:=(hm _ _).mp hq
   have:all.findSome? (cg d r)=some (q,r):=by
    refine zE (q:=q) (by rw [e];simp [h1]) (by unfold cg;rw [decide_eq_true (hlt q h1),decide_eq_true h2];rfl) fun x hx=>?_
    rw [e] at hx
    rcases List.mem_append.mp hx with hx | hx
    ·by_cases hp:pl d x=pl d r
     ·have:=(hm _ _).mpr ⟨hx,hp⟩
      rw [hq] at this
      exact Or.inl (Option.some.inj this).symm
     ·exact Or.inr (by unfold cg;rw [decide_eq_false hp,Bool.and_false];rfl)
    ·have:¬ x<r:=by
      rcases List.mem_cons.mp hx with rfl | hx
      ·w_up
      ·have:=hge x hx;w_up
     exact Or.inr (by unfold cg;rw [decide_eq_false this];rfl)
   rw [this]
  |none =>
   have:all.findSome? (cg d r)=none:=by
    refine List.findSome?_eq_none_iff.mpr fun x hx=>?_
    rw [e] at hx
    rcases List.mem_append.mp hx with hx | hx
    ·have hp:¬ pl d x=pl d r:=fun hp=>by
      have:=(hm _ _).mpr ⟨hx,hp⟩
      rw [hq] at this;cases this
     unfold cg;rw [decide_eq_false hp,Bool.and_false];rfl
    ·have:¬ x<r:=by
      rcases List.mem_cons.mp hx with rfl | hx
      ·w_up
      ·have:=hge x hx;w_up
     unfold cg;rw [decide_eq_false this];rfl
   rw [this]
   refine vP hs rest (pre++[r]) _ (by rw [e];simp) fun p q=>?_
   rw [JE]
   split
   ·rename_i ep
    subst ep
    simp only [Option.some.injEq,List.mem_append,List.mem_singleton]
    constructor
    ·rintro rfl;exact ⟨Or.inr rfl,rfl⟩
    ·rintro ⟨h1 | h1,h2⟩
     ·have:=(hm _ _).mpr ⟨h1,h2⟩
      rw [hq] at this;cases this
     ·exact h1.symm
   ·rename_i ep
    rw [hm]
    simp only [List.mem_append,List.mem_singleton]
    constructor
    ·rintro ⟨h1,h2⟩;exact ⟨Or.inl h1,h2⟩
    ·rintro ⟨h1 | h1,h2⟩
     ·exact ⟨h1,h2⟩
     ·rw [h1] at h2;exact absurd h2 ep
theorem Q5{N m:Nat}{d:PD}:yK N d m=Yv d (jn N m):=by
 unfold yK
 rw [vP VY (jn N m) [] [] rfl (fun p q=>by simp [lkN])]
 rfl
theorem Vm{U:Un}{beg:List Nat}{t:Tm}(h:t∈tms U beg):(t.op=none/\t.pos = -1)\/∃ o,t.op=some o/\0≤t.pos/\t.given=o.writes:=by
 unfold tms at h
 rcases List.mem_cons.mp h with rfl | h
 ·exact Or.inl ⟨rfl,rfl⟩
 ·obtain ⟨⟨B,i⟩,_,h⟩:=List.mem_flatMap.mp h
  unfold jY at h
  rcases List.mem_cons.mp h with rfl | h
  ·exact Or.inl ⟨rfl,rfl⟩
  ·obtain ⟨⟨⟨o,m⟩,k⟩,_,rfl⟩:=List.mem_map.mp h
   exact Or.inr ⟨o,rfl,Int.natCast_nonneg _,rfl⟩
theorem xY{o:Op}(hf:o.isFix=true):∀ r∈o.reads,r∉o.writes:=by
 cases o<;>first | cases hf | skip
 intro r hr
 simp only [Op.reads,List.mem_flatMap,yt,List.mem_filter,decide_eq_true_eq] at hr
 obtain ⟨_,_,_,h⟩:=hr
 exact h
theorem O5{U:Un}{beg:List Nat}{d:PD}{t:Tm}(h:t∈tms U beg):yJ U.count d t=yz U.count d t:=by
 rcases Vm h with ⟨ho,hp⟩ | ⟨o,ho,hp,hg⟩
 ·unfold yJ yz yV
  rw [ho,hp]
  simp only
  rw [Q5,show (decide ((-1:Int)<0)||!t.given.isEmpty)=true from rfl,if_pos rfl]
  have:(t.given.findSome? fun one=>if ((frO none).filter fun s=>decide (pl d s=pl d one)).isEmpty then none else some (one,one))=(none:Option (Nat×Nat)):=List.findSome?_eq_none_iff.mpr fun x _=>rfl
  rw [this,Option.or_none]
 ·unfold yJ yz yV
  rw [ho]
  simp only
  have hpd:decide (t.pos<0)=false:=decide_eq_false (by w_up)
  rw [hpd,Bool.false_or,hg]
  congr 1
  have hstep:∀ r,(if o.isFix&&oU d o r then some (r,r) else none)=if ((frO (some o)).filter fun s=>decide (pl d s=pl d r)).isEmpty then none else some (r,r):=fun r=>by
   cases hf:o.isFix with
   |false =>
    rw [show frO (some o)=[] from yN (by rw [hf];decide)];rfl
   |true =>
    rw [show frO (some o)=o.reads from yM hf]
    have e1:o.reads.filter (fun s=>decide (s∉o.writes))=o.reads:=List.filter_eq_self.mpr fun s hs=>decide_eq_true (xY hf s hs)
    unfold oU
    rw [e1,Bool.true_and]
    by_cases hx:∃ s∈o.reads,pl d s=pl d r
    ·obtain ⟨s,hs,he⟩:=hx
     have h1:(o.reads.any fun s=>decide (pl d s=pl d r))=true:=List.any_eq_true.mpr ⟨s,hs,decide_eq_true he⟩
     have h2:¬ (o.reads.filter fun s=>decide (pl d s=pl d r)).isEmpty=true:=fun hh=>by
      have:=List.isEmpty_iff.mp hh
      have hm:s∈o.reads.filter fun s=>decide (pl d s=pl d r):=List.mem_filter.mpr ⟨hs,decide_eq_true he⟩
      rw [this] at hm;simp at hm
     rw [if_pos h1,if_neg h2]
    ·have h1:¬ (o.reads.any fun s=>decide (pl d s=pl d r))=true:=fun hh=>by
      obtain ⟨s,hs,he⟩:=List.any_eq_true.mp hh
      exact hx ⟨s,hs,of_decide_eq_true he⟩
     have h2:(o.reads.filter fun s=>decide (pl d s=pl d r)).isEmpty=true:=by
      rw [List.isEmpty_iff]
      exact List.filter_eq_nil_iff.mpr fun s hs he=>hx ⟨s,hs,of_decide_eq_true he⟩
     rw [if_neg h1,if_pos h2]
  unfold YE
  cases hw:o.writes with
  |nil=>rfl
  |cons w ws =>
   rw [show (!(w::ws).isEmpty)=true from rfl,if_pos rfl,← Q5]
   cases hc:yK U.count d t.all with
   |some c =>
    rw [List.findSome?_cons]
    unfold YQ
    rw [hc];rfl
   |none =>
    rw [Option.none_or]
    have:∀ xs:List Nat,xs.findSome? (YQ U.count d o t.all)=xs.findSome? fun r=>if ((frO (some o)).filter fun s=>decide (pl d s=pl d r)).isEmpty then none else some (r,r):=fun xs=>by
     congr 1
     funext r
     unfold YQ
     rw [hc]
     exact hstep r
    rw [this]
theorem JK{α β:Type}{f g:α->Option β}:∀ {xs:List α},(∀ x∈xs,f x=g x)->xs.findSome? f=xs.findSome? g
 |[],_=>rfl
 |x::xs,h=>by rw [List.findSome?_cons,List.findSome?_cons,h x (List.mem_cons_self ..),JK fun y hy=>h y (List.mem_cons_of_mem _ hy)]
theorem Vt{U:Un}{beg:List Nat}{d:PD}:y2 U beg d=yr U.count d (tms U beg):=JK fun t ht=>O5 ht
theorem Xi:∀ {xs ks:List Nat},(ks++xs).Nodup->xs.foldl JR ks=ks++xs
 |[],ks,_=>by simp
 |x::xs,ks,h=>by
  have hx:x∉ks:=fun hm=>by
   rw [List.nodup_append] at h
   exact h.2.2 x hm x (List.mem_cons_self ..) rfl
  rw [List.foldl_cons]
  have:JR ks x=ks++[x]:=by unfold JR;rw [if_neg hx]
  rw [this,Xi (by simpa using h)];simp
theorem qg{U:Un}(ho:jy U):zn U=List.range U.count:=by
 unfold zn
 rw [ho.ord,Xi (by simpa using List.nodup_range)];rfl
theorem xc{U:Un}(ho:jy U):U.entry=List.range U.entry.length:=by
 have h:=congrArg (List.take U.entry.length) ho.ord
 unfold gvs at h
 rw [List.take_left,List.take_range,Nat.min_eq_left ho.entc] at h
 exact h
theorem Xg{U:Un}{beg:List Nat}{d:PD}{c:Nat}(ho:jy U)(hd:Total U.count d):j1 U beg d c=J4 U d c (yr U.count d (tms U beg)):=by
 unfold j1 J4
 rw [← Vt,qg ho]
 have h1:U.entry.zipIdx.all (fun p=>decide (lkN d p.1=some p.2))=decide (U.entry.map (pl d)=List.range U.entry.length):=by
  rw [Bool.eq_iff_iff,List.all_eq_true,decide_eq_true_eq]
  constructor
  ·intro h
   refine List.ext_getElem? fun i=>?_
   rw [List.getElem?_map]
   by_cases hi:i<U.entry.length
   ·have hx:U.entry[i]? = some U.entry[i]:=List.getElem?_eq_getElem hi
    have:=h (U.entry[i],i) (List.mk_mem_zipIdx_iff_getElem?.mpr hx)
    simp only [decide_eq_true_eq] at this
    rw [hx,List.getElem?_range hi]
    simp only [Option.map_some,Option.some.injEq]
    unfold pl;rw [this];rfl
   ·rw [List.getElem?_eq_none (by w_up),List.getElem?_eq_none (by rw [List.length_range];w_up)];rfl
  ·rintro h ⟨r,i⟩ hm
   have hx:=List.mk_mem_zipIdx_iff_getElem?.mp hm
   have hi:i<U.entry.length:=(List.getElem?_eq_some_iff.mp hx).1
   have:=congrArg (fun l=>l[i]?) h
   simp only [List.getElem?_map,hx,List.getElem?_range hi,Option.map_some,Option.some.injEq] at this
   simp only [decide_eq_true_eq]
   rw [hd.get (ho.ent r (List.mem_of_getElem? hx)),this]
 have h2:((List.range U.count).all fun r=>(lkN d r).isSome&&decide (pl d r<c))=((List.range U.count).filter fun r=>!decide (pl d r<c)).isEmpty:=by
  rw [Bool.eq_iff_iff,List.all_eq_true,List.isEmpty_iff,List.filter_eq_nil_iff]
  constructor
  ·intro h r hr hb
   have:=h r hr
   rw [Bool.and_eq_true] at this
   rw [this.2] at hb;cases hb
  ·intro h r hr
   rw [hd.get (List.mem_range.mp hr)]
   have:=h r hr
   simpa using this
 rw [h1,h2]
 cases decide (U.entry.map (pl d)=List.range U.entry.length)<;>cases ((List.range U.count).filter fun r=>!decide (pl d r<c)).isEmpty<;>cases (y2 U beg d).isNone<;>rfl
noncomputable abbrev HL:=List (Nat×MObj)
def H(st:St)(L:HL):Prop:=(L.map (·.1)).Nodup/\∀ p∈L,st p.1=some p.2
theorem H.get{st:St}{L:HL}(h:H st L){a:Nat}{o:MObj}(m:(a,o)∈L):st a=some o:=h.2 (a,o) m
theorem H.perm{st:St}{L L':HL}(h:H st L)(p:L.Perm L'):H st L':=⟨(p.map _).nodup_iff.mp h.1,fun q hq=>h.2 q (p.mem_iff.mpr hq)⟩
theorem H.le{st st':St}{L:HL}(h:H st L)(l:Le st st'):H st' L:=⟨h.1,fun p hp=>l _ _ (h.2 p hp)⟩
theorem H.tail{st:St}{L:HL}{x:Nat×MObj}(h:H st (x::L)):H st L:=⟨(List.nodup_cons.mp h.1).2,fun p hp=>h.2 p (List.mem_cons_of_mem _ hp)⟩
theorem H.new{st st':St}{L:HL}{a:Nat}{o:MObj}(h:H st L)(l:Le st st')(n:st a=none)(e:st' a=some o):H st' ((a,o)::L) :=
 ⟨List.nodup_cons.mpr ⟨(by
  intro hm
  obtain ⟨p,hp,e'⟩:=List.mem_map.mp hm
  simp only at e'
  have:=h.2 p hp
  rw [e',n] at this;cases this),h.1⟩,(by
  intro p hp
  rcases List.mem_cons.mp hp with rfl | hp
  ·exact e
  ·exact l _ _ (h.2 p hp))⟩
theorem H.upd{st st':St}{A B:HL}{a:Nat}{o o':MObj}(h:H st (A++(a,o)::B))(x:Lx [a] st st')(e:st' a=some o'):H st' (A++(a,o')::B):=by
 have h1:((A++(a,o)::B).map (·.1))=((A++(a,o')::B).map (·.1)):=by simp
 refine ⟨h1▸h.1,fun p hp=>?_⟩
 have hne:∀ p,p∈A\/p∈B->p.1≠a:=by
  have hd:=h.1
  rw [List.map_append,List.map_cons,List.nodup_append] at hd
  obtain ⟨_,h3,h4⟩:=hd
  rw [List.nodup_cons] at h3
  rintro p (hp | hp) e
  ·exact h4 p.1 (List.mem_map_of_mem hp) a (List.mem_cons_self ..) e
  ·exact h3.1 (List.mem_map.mpr ⟨p,hp,e⟩)
 rcases List.mem_append.mp hp with hp | hp
 ·exact lxg x (hne p (Or.inl hp)) (h.2 p (by simp [hp]))
 ·rcases List.mem_cons.mp hp with rfl | hp
  ·exact e
  ·exact lxg x (hne p (Or.inr hp)) (h.2 p (by simp [hp]))
theorem H.upd0{st st':St}{B:HL}{a:Nat}{o o':MObj}(h:H st ((a,o)::B))(x:Lx [a] st st')(e:st' a=some o'):H st' ((a,o')::B):=H.upd (A:=[]) h x e
noncomputable def jO(sc k:Nat)(s:Int):MObj:=.list [.ref sc,.int (k:Nat),.int s]
noncomputable def scO(xs:List Int):MObj:=.list (xs.map .int)
def JN(s:Int):Prop:=0≤s/\s<2147483648
theorem jcF{xs:List Int}{i:Nat}{x:Int}(h:xs[i]? = some x):(xs.map MV.int)[i]? = some (.int x):=by rw [List.getElem?_map,h];rfl
theorem J9{n dk sc k many:Nat}{s:Int}{xs:List Int}{F:HL}{st:St}{K:MV->St->Prop}(h:H st ((dk,jO sc k s)::(sc,scO xs)::F))(hk:k<1000000)(hs:JN s)(hm:0<many)
  (hK:∀ q s' st',q<many->JN s'->Lx [dk] st st'->H st' ((dk,jO sc (k+1) s')::(sc,scO xs)::F)->K (.int (q:Nat)) st'):Cl (n+1) "_law_draw" [.ref dk,.int many] st K:=by
 refine jr (fn:=fn_law_draw) (by decide) rfl rfl ?_
 unfold fn_law_draw
 one_place
 have h0:st dk=some (.list [.ref sc,.int (k:Nat),.int s]):=h.get (by simp [jO])
 have hmi:(0:Int)<(many:Int):=Int.natCast_pos.mpr hm
 have hmod:∀ (x:Int),∃ q:Nat,q<many/\x % (many:Int)=(q:Int):=fun x=>by
  have h1:=Int.emod_nonneg x (Int.ne_of_gt hmi)
  have h2:=Int.emod_lt_of_pos x hmi
  exact ⟨(x % (many:Int)).toNat,by w_up,by w_up⟩
 l_ints
 refine V9 h0 rfl ?_
 l_ints
 refine Zx (i:=1) h0 (ble rfl) fun st1 l1 h1=>?_
 have h1:st1 dk=some (.list [.ref sc,.int ((k+1:Nat):Int),.int s]):=h1
 have H1:H st1 ((dk,jO sc (k+1) s)::(sc,scO xs)::F):=H.upd0 h l1 h1
 have hsc:st1 sc=some (.list (xs.map .int)):=H1.get (by simp [scO])
 l_ints
 refine V9 h1 rfl ?_
 l_ints
 refine zl h1 rfl ?_
 l_ints
 refine Jq hsc ?_
 rw [List.length_map]
 refine jbQ (yQ (fun hle=>?_) fun hle=>?_)
 ·have hlt:k<xs.length:=by have:=Int.ofNat_le.mp hle;w_up
  have hx:xs[k]? = some xs[k]:=List.getElem?_eq_getElem hlt
  l_ints
  refine zl h1 rfl ?_
  l_ints
  refine V9 h1 rfl ?_
  l_ints
  refine s_l hsc (jcF hx) ?_
  l_ints
  refine u9 hmi ?_
  obtain ⟨q,hq,e⟩:=hmod xs[k]
  rw [e]
  exact hK q s st1 hq hs l1 H1
 ·l_ints
  refine jeY h1 rfl ?_
  l_ints
  obtain ⟨hs1,hs2⟩:=hs
  refine jdi (by unfold jP;w_up) ?_
  l_ints
  refine V9 h1 rfl ?_
  refine jdi (by unfold jP;w_up) ?_
  refine Q2 ?_
  l_ints
  refine Q2 ?_
  l_ints
  refine u9 (by decide) ?_
  have g1:=Int.emod_nonneg (s*40692+1013*((k+1:Nat):Int)+7) (show (2147483399:Int)≠0 by decide)
  have g2:=Int.emod_lt_of_pos (s*40692+1013*((k+1:Nat):Int)+7) (show (0:Int)<2147483399 by decide)
  generalize (s*40692+1013*((k+1:Nat):Int)+7) % 2147483399=s' at *
  l_ints
  refine Zx (i:=2) h1 (ble rfl) fun st2 l2 h2=>?_
  have h2:st2 dk=some (.list [.ref sc,.int ((k+1:Nat):Int),.int s']):=h2
  have H2:H st2 ((dk,jO sc (k+1) s')::(sc,scO xs)::F):=H.upd0 H1 l2 h2
  l_ints
  refine jeY h2 rfl ?_
  l_ints
  refine jeR (by decide) ?_
  l_ints
  refine u9 hmi ?_
  obtain ⟨q,hq,e⟩:=hmod (s' / 128)
  rw [e]
  exact hK q s' st2 hq ⟨g1,by w_up⟩ (l1.trans l2) H2
theorem jZ{n dk sc k many:Nat}{s:Int}{xs:List Int}{F:HL}{st:St}{K:MV->St->Prop}(h:H st ((dk,jO sc k s)::(sc,scO xs)::F))(hk:k<1000000)(hs:JN s)(hm:0<many)
  (hK:∀ q s' st',q<many->JN s'->H st' ((dk,jO sc (k+1) s')::(sc,scO xs)::F)->K (.int (q:Nat)) st'):Cl (n+1) "_law_draw" [.ref dk,.int many] st K :=
 J9 h hk hs hm fun q s' st' a b _ c=>hK q s' st' a b c
theorem j7{n dk sc k it:Nat}{s:Int}{xs:List Int}{is:List Nat}{F:HL}{st:St}{K:MV->St->Prop}(h:H st ((dk,jO sc k s)::(sc,scO xs)::F))(hk:k<1000000)(hs:JN s)(hi:(it,MObj.list (jc is))∈F)(hne:0<is.length)
  (hK:∀ x s' st',x∈is->JN s'->H st' ((dk,jO sc (k+1) s')::(sc,scO xs)::F)->K (.int (x:Nat)) st'):Cl (n+2) "_law_one" [.ref dk,.ref it] st K:=by
 refine jr (fn:=fn_law_one) (by decide) rfl rfl ?_
 unfold fn_law_one
 one_place
 l_ints
 refine Jq (h.get (show (it,MObj.list (jc is))∈_ by simp [hi])) ?_
 rw [je]
 l_ints
 refine jZ h hk hs hne fun q s' st' hq hs' H'=>?_
 have hx:is[q]? = some is[q]:=List.getElem?_eq_getElem hq
 refine s_l (H'.get (show (it,MObj.list (jc is))∈_ by simp [hi])) (j9 hx) ?_
 exact hK _ _ _ (List.mem_of_getElem? hx) hs' H'
theorem yn{n dk sc k it many:Nat}{s:Int}{xs:List Int}{is:List Nat}{F:HL}{st:St}{K:MV->St->Prop}(h:H st ((dk,jO sc k s)::(sc,scO xs)::F))(hk:k+many<1000000)(hm:many<1000)(hs:JN s)(hi:(it,MObj.list (jc is))∈F)(hne:0<is.length)
  (hK:∀ row s' st',row.length=many->(∀ x∈row,x∈is)->JN s'->H st' ((dk,jO sc (k+many) s')::(sc,scO xs)::F)->K (.tup (jc row)) st'):Cl (n+3) "_law_some" [.ref dk,.ref it,.int many] st K:=by
 refine jr (fn:=fn_law_some) (by decide) rfl rfl ?_
 unfold fn_law_some
 one_place
 l_ints
 refine ⟨⟨Int.natCast_nonneg _,Int.ofNat_lt.mpr (by unfold jb;w_up)⟩,?_⟩
 rw [Int.toNat_natCast]
 refine cpA (mv:=fun i:Nat=>MV.int (i:Int)) (fun pre acc st'=>∃ row s',acc=jc row/\row.length=pre.length/\(∀ x∈row,x∈is)/\JN s'/\H st' ((dk,jO sc (k+pre.length) s')::(sc,scO xs)::F)) ⟨[],s,rfl,rfl,by simp,hs,h⟩ (fun _ _ _ _=>jH) ?_ ?_
 ·rintro pre i post e acc st' ⟨row,s',rfl,hl,hr,hs',H'⟩ K' hK'
  have hpl:pre.length<many:=by
   have:=congrArg List.length e
   rw [List.length_range,List.length_append,List.length_cons] at this;w_up
  l_ints
  refine j7 H' (by w_up) hs' hi hne fun x s2 st2 hx hs2 H2=>?_
  refine hK' _ _ ⟨row++[x],s2,by rw [← js];rfl,by simp [hl],fun y hy=>?_,hs2,?_⟩
  ·rcases List.mem_append.mp hy with hy | hy
   ·exact hr y hy
   ·rw [List.mem_singleton.mp hy];exact hx
  ·rw [List.length_append,List.length_singleton,← Nat.add_assoc];exact H2
 ·rintro acc st' ⟨row,s',rfl,hl,hr,hs',H'⟩
  rw [List.length_range] at hl H'
  refine YD rfl (by rw [hl];unfold jb;w_up) fun a st2 l2 n2 ha=>?_
  l_ints
  refine XM ha ?_
  exact hK row s' st2 hl hr hs' (H'.le l2)
noncomputable def uO(d e bl cnt:Nat):MObj:=.inst "LowUnit" d [("number",.int 0),("title",.str "u"),("is_continuation",.bool false),("entry",.ref e),("needed",.int 0),("has_rest",.bool false),("free",.int 0),("count",.int (cnt:Nat)),("blocks",.ref bl)]
theorem GA{n u d e bl cnt:Nat}{A B:HL}{st:St}{K:MV->St->Prop}(h:H st (A++(u,uO d e bl cnt)::B))(hK:∀ st',H st' (A++(u,uO d e bl (cnt+1))::B)->K (.int (cnt:Nat)) st'):Cl (n+1) "LowUnit.fresh" [.ref u] st K:=by
 refine jr (fn:=fn_LowUnit_fresh) (by decide) rfl rfl ?_
 unfold fn_LowUnit_fresh
 one_place
 have h0:st u=some (uO d e bl cnt):=h.get (by kst_mem)
 unfold uO at h0
 l_ints
 refine sax h0 (ble rfl) fun st1 l1 h1=>?_
 have H1:=H.upd (o':=uO d e bl (cnt+1)) h l1 h1
 have h1:st1 u=some (uO d e bl (cnt+1)):=h1
 unfold uO at h1
 l_ints
 exact hK st1 H1
theorem vB{n u d e bl cnt:Nat}{A B:HL}{ρ:ja}{st:St}{K:MV->St->Prop}(hv:lk ρ "unit" = some (.ref u))(h:H st (A++(u,uO d e bl cnt)::B))(hK:∀ st',H st' (A++(u,uO d e bl (cnt+1))::B)->K (.int (cnt:Nat)) st') :
  wpE (Cl (n+1)) (.meth (.var "unit") "fresh" []) ρ st K:=by
 have h0:st u=some (uO d e bl cnt):=h.get (by kst_mem)
 unfold uO at h0
 refine qH (ya hv ⟨Qi h0 rfl (by decide),Jc (gz h0 h0 rfl (show "LowUnit"++"."++"fresh" = "LowUnit.fresh" by decide) (GA h hK))⟩)
theorem H.sub{st:St}{L L':HL}(h:H st L)(s:L'.Sublist L):H st L':=⟨h.1.sublist (s.map _),fun p hp=>h.2 p (s.subset hp)⟩
structure u8(ks:List Nat)(cnt:Nat)(o:Op):Prop where
 writes:o.writes=List.range' cnt o.writes.length
 reads:∀ r∈o.reads,r∈ks
 rl:o.reads.length≤4
 wl:o.writes.length≤2
theorem m5{a b c d x:Nat×MObj}{F:HL}:(a::b::c::d::x::F).Perm (x::a::b::c::d::F) :=
 ((((List.Perm.swap x d F).cons c).trans (List.Perm.swap x c _)).cons b |>.trans (List.Perm.swap x b _)).cons a |>.trans (List.Perm.swap x a _)
theorem qX{a b c d x:Nat×MObj}{F:HL}:(a::b::c::d::F).Sublist (a::b::c::d::x::F):=.cons_cons _ (.cons_cons _ (.cons_cons _ (.cons_cons _ (List.sublist_cons_self _ _))))
theorem Q1{n dk sc k u d e bl cnt kn:Nat}{s:Int}{xs:List Int}{ks:List Nat}{F:HL}{st:St}{K:MV->St->Prop}
  (h:H st ((dk,jO sc k s)::(sc,scO xs)::(u,uO d e bl cnt)::(kn,.list (jc ks))::F)) (hk:k+3<1000000) (hs:JN s) (hne:0<ks.length) (hkl:ks.length<1000)
  (hK:∀ o s' st',u8 ks cnt o->JN s'->H st' ((dk,jO sc (k+3) s')::(sc,scO xs)::(u,uO d e bl (cnt+o.writes.length))::(kn,.list (jc (ks++o.writes)))::F)->K o.mv st'):Cl (n+3) "_law_op" [.ref dk,.ref u,.ref kn] st K:=by
 refine jr (fn:=fn_law_op) (by decide) rfl rfl ?_
 unfold fn_law_op
 one_place
 l_ints
 refine jZ (many:=9) h (by w_up) hs (by decide) fun way s1 st1 hw hs1 H1=>?_
 l_ints
 refine j7 (it:=kn) (is:=ks) H1 (by w_up) hs1 (by simp) hne fun x s2 st2 hx hs2 H2=>?_
 l_ints
 refine j7 (it:=kn) (is:=ks) H2 (by w_up) hs2 (by simp) hne fun y s3 st3 hy hs3 H3=>?_
 l_ints
 intro so st4 l4 n4 hso
 have H4:=(H3.new l4 n4 hso).perm m5.symm
 l_ints
 refine Qy rfl ?_
 have hso4:st4 so=some (.list [.int (x:Nat),.int (y:Nat)]):=hso
 have hxy:∀ o,o=Op.define x\/o=Op.setglobal y->u8 ks cnt o:=fun o ho=>by
  rcases ho with rfl | rfl
  ·exact ⟨rfl,fun r hr=>by rw [List.mem_singleton.mp hr];exact hx,by simp [Op.reads],by simp [Op.writes]⟩
  ·exact ⟨rfl,fun r hr=>by rw [List.mem_singleton.mp hr];exact hy,by simp [Op.reads],by simp [Op.writes]⟩
 l_ints
 refine vm (yQ (fun w7=>?_) fun w7=>?_)
 ·l_ints
  refine zl hso4 rfl ?_
  l_ints
  have z:=hK (.define x) s3 st4 (hxy _ (Or.inl rfl)) hs3
  rw [show (Op.define x).writes=[] from rfl,List.append_nil] at z
  exact z (H4.sub qX)
 l_ints
 refine vm (yQ (fun w8=>?_) fun w8=>?_)
 ·l_ints
  refine V9 hso4 rfl ?_
  l_ints
  have z:=hK (.setglobal y) s3 st4 (hxy _ (Or.inr rfl)) hs3
  rw [show (Op.setglobal y).writes=[] from rfl,List.append_nil] at z
  exact z (H4.sub qX)
 refine j6 (jm (yE (vB (A:=[_,_]) (by rfl) H4 fun st5 H5=>?_)))
 have hkn5:st5 kn=some (.list (jc ks)):=H5.get (by kst_mem)
 l_ints
 refine ⟨jJ hkn5,?_⟩
 l_ints
 refine jI hkn5 hkn5 (by rw [je];unfold jb;w_up) fun st6 l6 h6=>⟨rfl,?_⟩
 have h6:st6 kn=some (.list (jc (ks++[cnt]))):=by rw [h6,← js];rfl
 have H6:=H.upd (A:=[_,_,_]) H5 l6 h6
 have hso6:st6 so=some (.list [.int (x:Nat),.int (y:Nat)]):=H6.get (by kst_mem)
 l_ints
 refine vm (yQ (fun w0=>?_) fun w0=>?_)
 ·l_ints
  exact hK (.const cnt) s3 st6 ⟨rfl,by simp [Op.reads],by simp [Op.reads],by simp [Op.writes]⟩ hs3 (H6.sub qX)
 l_ints
 refine vm (yQ (fun w1=>?_) fun w1=>?_)
 ·l_ints
  refine zl hso6 rfl ?_
  l_ints
  exact hK (.move cnt x) s3 st6 ⟨rfl,fun r hr=>by rw [List.mem_singleton.mp hr];exact hx,by simp [Op.reads],by simp [Op.writes]⟩ hs3 (H6.sub qX)
 l_ints
 refine vm (yQ (fun w2=>?_) fun w2=>?_)
 ·l_ints
  exact hK (.global cnt) s3 st6 ⟨rfl,by simp [Op.reads],by simp [Op.reads],by simp [Op.writes]⟩ hs3 (H6.sub qX)
 l_ints
 have hr2:∀ r∈[x,y],r∈ks:=fun r hr=>by
  rcases List.mem_cons.mp hr with rfl | hr
  ·exact hx
  ·rw [List.mem_singleton.mp hr];exact hy
 refine jfx (yQ (fun w4=>?_) fun w4=>?_)
 ·l_ints
  refine vm (yQ (fun w5=>?_) fun w5=>?_)
  ·l_ints
   refine XM hso6 ?_
   l_ints
   exact hK (.prim cnt [x,y]) s3 st6 ⟨rfl,hr2,by simp [Op.reads],by simp [Op.writes]⟩ hs3 (H6.sub qX)
  ·l_ints
   refine XM hso6 ?_
   l_ints
   exact hK (.closure cnt [x,y]) s3 st6 ⟨rfl,hr2,by simp [Op.reads],by simp [Op.writes]⟩ hs3 (H6.sub qX)
 refine j6 (jm (yE (vB (A:=[_,_]) (by rfl) H6 fun st7 H7=>?_)))
 have hkn7:st7 kn=some (.list (jc (ks++[cnt]))):=H7.get (by kst_mem)
 l_ints
 refine ⟨jJ hkn7,?_⟩
 l_ints
 refine jI hkn7 hkn7 (by rw [je,List.length_append,List.length_singleton];unfold jb;w_up) fun st8 l8 h8=>⟨rfl,?_⟩
 have h8:st8 kn=some (.list (jc (ks++[cnt,cnt+1]))):=by
  rw [h8,show ks++[cnt,cnt+1]=(ks++[cnt])++[cnt+1] by simp,← js (ks++[cnt])];rfl
 have H8:=H.upd (A:=[_,_,_]) H7 l8 h8
 have hso8:st8 so=some (.list [.int (x:Nat),.int (y:Nat)]):=H8.get (by kst_mem)
 l_ints
 refine zl hso8 rfl ?_
 l_ints
 refine V9 hso8 rfl ?_
 l_ints
 refine hK (.fix [(cnt,0,[cnt+1,x]),(cnt+1,1,[y,cnt])]) s3 st8 ⟨rfl,fun r hr=>?_,?_,by simp [Op.writes]⟩ hs3 (H8.sub qX)
 ·simp only [Op.reads,List.mem_flatMap,yt,List.mem_filter,decide_eq_true_eq,List.map_cons,List.map_nil,List.mem_cons,List.not_mem_nil,or_false,not_or] at hr
  obtain ⟨row,rfl | rfl,hr1,hr2⟩:=hr
  ·rcases List.mem_cons.mp hr1 with h | h
   ·exact absurd h hr2.2
   ·rw [List.mem_singleton.mp h];exact hx
  ·rcases List.mem_cons.mp hr1 with h | h
   ·rw [h];exact hy
   ·exact absurd (List.mem_singleton.mp h) hr2.1
 ·have e1:∀ f:Nat->Bool,(([cnt+1,x].filter f)++(([y,cnt].filter f)++[])).length≤4:=fun f=>by
   rw [List.length_append,List.length_append]
   have g1:=List.length_filter_le f [cnt+1,x]
   have g2:=List.length_filter_le f [y,cnt]
   simp only [List.length_cons,List.length_nil] at *
   w_up
  exact e1 _
structure Z where
 a:Nat
 d:Nat
 p:Nat
 o:Nat
 i:Nat
 params:List Nat
 ops:List Op
 fin:Option En
 av:List Nat
noncomputable def Z.endv(z:Z):MV:=match z.fin with
 |none=>.none
 |some E=>E.mv
noncomputable def Z.inst(z:Z):MObj:=.inst "LowBlock" z.d [("number",.int (z.i:Nat)),("params",.ref z.p),("ops",.ref z.o),("end",z.endv)]
noncomputable def Z.objs(z:Z):HL:=[(z.a,z.inst),(z.p,.list (jc z.params)),(z.o,.list (z.ops.map Op.mv))]
structure Ad where
 dk:Nat
 sc:Nat
 u:Nat
 bl:Nat
 d:Nat
 e:Nat
 xs:List Int
noncomputable def W(A:Ad)(kn k:Nat)(s:Int)(cnt:Nat)(ks:List Nat)(zs:List Z)(R:HL):HL :=
 (A.dk,jO A.sc k s)::(A.sc,scO A.xs)::(A.u,uO A.d A.e A.bl cnt)::(kn,.list (jc ks))::(A.bl,.list ((zs.map Z.a).map .ref))::(zs.flatMap Z.objs++R)
def xh(ks:List Nat)(cnt:Nat)(ops:List Op):Prop:=∀ pre o post,ops=pre++o::post->u8 (ks++pre.flatMap Op.writes) (cnt+(pre.flatMap Op.writes).length) o
theorem Gx{ks:List Nat}{cnt:Nat}:xh ks cnt []:=fun pre o post e=>by
 have:=congrArg List.length e
 simp at this
theorem VW{ks:List Nat}{cnt:Nat}{ops:List Op}{o:Op}(h:xh ks cnt ops)(ho:u8 (ks++ops.flatMap Op.writes) (cnt+(ops.flatMap Op.writes).length) o):xh ks cnt (ops++[o]):=by
 intro pre q post e
 rcases List.append_eq_append_iff.mp e with ⟨as,h1,h2⟩ | ⟨as,h1,h2⟩
 ·cases as with
  |nil =>
   simp only [List.append_nil,List.nil_append,List.cons.injEq] at h1 h2
   rw [h1,← h2.1];exact ho
  |cons x as =>
   have:=congrArg List.length h2
   simp at this
 ·cases as with
  |nil =>
   simp only [List.append_nil,List.nil_append,List.cons.injEq] at h1 h2
   rw [← h1,h2.1];exact ho
  |cons x as =>
   simp only [List.cons_append,List.cons.injEq] at h2
   rw [← h2.1] at h1
   exact h pre q as h1
theorem vE{n i p:Nat}{st:St}{K:MV->St->Prop}
  (hk:∀ a d o st',Le st st'->st a=none->st o=none->a≠o->st' a=some (.inst "LowBlock" d [("number",.int (i:Nat)),("params",.ref p),("ops",.ref o),("end",.none)])->st' o=some (.list [])->K (.ref a) st'):Cl (n+2) "LowBlock" [.int i,.ref p] st K:=by
 refine ZV (by decide) fun a d st1 l0 na h1=>?_
 refine jr (f:="LowBlock.__init__") (fn:=fn_LowBlock_init) (by decide) rfl rfl ?_
 unfold fn_LowBlock_init
 one_place
 l_ints
 refine sax h1 (by decide) fun st2 l2 h2=>?_
 have h2:st2 a=some (.inst "LowBlock" d [("number",.int (i:Nat))]):=h2
 l_ints
 refine sax h2 (ble rfl) fun st3 l3 h3=>?_
 have h3:st3 a=some (.inst "LowBlock" d [("number",.int (i:Nat)),("params",.ref p)]):=h3
 l_ints
 intro o st4 l4 n4 h4
 have h3':=l4 _ _ h3
 have hoa:o≠a:=vA n4 h3
 l_ints
 refine sax h3' (ble rfl) fun st5 l5 h5=>?_
 have h5:st5 a=some (.inst "LowBlock" d [("number",.int (i:Nat)),("params",.ref p),("ops",.ref o)]):=h5
 l_ints
 refine sax h5 (ble rfl) fun st6 l6 h6=>?_
 have h6:st6 a=some (.inst "LowBlock" d [("number",.int (i:Nat)),("params",.ref p),("ops",.ref o),("end",.none)]):=h6
 l_ints
 have L3:Le st st3:=(l0.lx na l2).lx na l3
 exact ⟨rfl,hk a d o st6 (((L3.trans l4).lx na l5).lx na l6) na (L3.back n4) hoa.symm h6 (lxg l6 hoa (lxg l5 hoa h4))⟩
theorem H.new2{st st':St}{L:HL}{a b:Nat}{oa ob:MObj}(h:H st L)(l:Le st st')(na:st a=none)(nb:st b=none)(hab:a≠b)(ea:st' a=some oa)(eb:st' b=some ob):H st' ((a,oa)::(b,ob)::L):=by
 have e1:H st' L:=h.le l
 have hno:∀ x,st x=none->x∉L.map (·.1):=fun x hx hm=>by
  obtain ⟨q,hq,e⟩:=List.mem_map.mp hm
  have:=h.2 q hq
  rw [e,hx] at this;cases this
 refine ⟨List.nodup_cons.mpr ⟨fun hm=>?_,List.nodup_cons.mpr ⟨hno b nb,e1.1⟩⟩,fun q hq=>?_⟩
 ·rcases List.mem_cons.mp hm with hm | hm
  ·exact hab hm
  ·exact hno a na hm
 ·rcases List.mem_cons.mp hq with rfl | hq
  ·exact ea
  ·rcases List.mem_cons.mp hq with rfl | hq
   ·exact eb
   ·exact e1.2 q hq
theorem jhF{C Y R:HL}{a p o:Nat×MObj}:([a,o,p]++(C++(Y++R))).Perm (C++((Y++[a,p,o])++R)):=by
 have h1:([a,o,p]++(C++(Y++R))).Perm ([a,p,o]++(C++(Y++R))):=((List.Perm.swap p o _).cons a)
 refine h1.trans ?_
 refine (List.perm_append_comm_assoc [a,p,o] C (Y++R)).trans ?_
 refine (List.Perm.append_left C ?_)
 rw [List.append_assoc]
 exact List.perm_append_comm_assoc [a,p,o] Y R
theorem jdb{A:Ad}{kn k c i a d p o:Nat}{s:Int}{is ps av:List Nat}{zs:List Z}{R:HL}{ops:List Op}:(o,MObj.list (ops.map Op.mv))∈W A kn k s c is (zs++[⟨a,d,p,o,i,ps,ops,none,av⟩]) R:=by
 unfold W;rw [List.flatMap_append]
 kst_mem
theorem jfR{A:Ad}{kn k c i a d p o:Nat}{s:Int}{is ps av:List Nat}{zs:List Z}{R:HL}{ops:List Op}:(a,MObj.inst "LowBlock" d [("number",.int (i:Nat)),("params",.ref p),("ops",.ref o),("end",.none)])∈W A kn k s c is (zs++[⟨a,d,p,o,i,ps,ops,none,av⟩]) R:=by
 unfold W;rw [List.flatMap_append]
 kst_mem
theorem jfs{A:Ad}{kn k k' c c' i a d p o:Nat}{s:Int}{is is' ps av:List Nat}{zs:List Z}{R:HL}{ops:List Op}{op:Op}{st st':St}(h:H st (W A kn k s c is (zs++[⟨a,d,p,o,i,ps,ops,none,av⟩]) R))(l:Lx [o] st st')(e:st' o=some (.list (ops.map Op.mv++[op.mv])))
  (e1:k'=k) (e2:c'=c) (e3:is'=is):H st' (W A kn k' s c' is' (zs++[⟨a,d,p,o,i,ps,ops++[op],none,av⟩]) R):=by
 subst e1 e2 e3
 have key:∀ (c1 c2 c3 c4 c5 x y w:Nat×MObj) (Y Y':HL),Y'=Y++[x,y,w]->(c1::c2::c3::c4::c5::(Y'++R))=(c1::c2::c3::c4::c5::(Y++[x,y]))++w::R:=by intros;subst_vars;simp
 have ea:(zs++[(⟨a,d,p,o,i,ps,ops++[op],none,av⟩:Z)]).map Z.a=(zs++[(⟨a,d,p,o,i,ps,ops,none,av⟩:Z)]).map Z.a:=by rw [List.map_append,List.map_append];rfl
 unfold W at h ⊢
 rw [ea,key _ _ _ _ _ _ _ _ _ _ List.flatMap_append,List.map_append (f:=Op.mv)]
 rw [key _ _ _ _ _ _ _ _ _ _ List.flatMap_append] at h
 exact H.upd h l e
theorem vU:∀ l:List Op,(∀ o∈l,o.writes.length≤2)->(l.flatMap Op.writes).length≤2*l.length
 |[],_=>Nat.le_refl _
 |y::l,hl=>by
  have h1:=vU l fun o ho=>hl o (List.mem_cons_of_mem _ ho)
  have h2:=hl y (List.mem_cons_self ..)
  rw [List.flatMap_cons,List.length_append,List.length_cons];w_up
theorem vZ{n kn k cnt many:Nat}{A:Ad}{s:Int}{ks:List Nat}{zs:List Z}{R:HL}{st:St}{K:MV->St->Prop}
  (h:H st (W A kn k s cnt ks zs R)) (hk:k+10<1000000) (hs:JN s) (hne:0<ks.length) (hkl:ks.length<900) (hm:many<50) (hz:zs.length<1000)
  (hK:∀ z s' st',z.i=zs.length->z.fin=none->z.params=List.range' cnt many->z.av=ks++z.params->z.ops.length≤2->xh (ks++z.params) (cnt+many) z.ops->JN s' ->
   H st' (W A kn (k+1+3*z.ops.length) s' (cnt+many+(z.ops.flatMap Op.writes).length) (ks++z.params++z.ops.flatMap Op.writes) (zs++[z]) R)->K (.ref z.a) st'):Cl (n+4) "_law_block" [.ref A.dk,.ref A.u,.ref kn,.int many] st K:=by
 refine jr (fn:=fn_law_block) (by decide) rfl rfl ?_
 unfold fn_law_block
 one_place
 unfold W at h
 have hu:st A.u=some (uO A.d A.e A.bl cnt):=h.get (by kst_mem)
 have hbl:st A.bl=some (.list ((zs.map Z.a).map .ref)):=h.get (by kst_mem)
 unfold uO at hu
 l_ints
 refine Jq hbl ?_
 rw [List.length_map,List.length_map]
 l_ints
 refine ⟨⟨Int.natCast_nonneg _,Int.ofNat_lt.mpr (by unfold jb;w_up)⟩,?_⟩
 rw [Int.toNat_natCast]
 refine cpA (mv:=fun i:Nat=>MV.int (i:Int)) (fun pre acc st'=>acc=jc (List.range' cnt pre.length)/\H st' (W A kn k s (cnt+pre.length) ks zs R)) ⟨rfl,h⟩ (fun _ _ _ _=>jH) ?_ ?_
 ·rintro pre i post e acc st1 ⟨rfl,H1⟩ K' hK'
  refine Qp (vB (A:=[_,_]) (by rfl) H1 fun st2 H2=>?_)
  refine hK' _ _ ⟨?_,?_⟩
  ·rw [List.length_append,List.length_singleton,List.range'_concat,← js,Nat.one_mul];rfl
  ·rw [List.length_append,List.length_singleton,← Nat.add_assoc];exact H2
 rintro acc st1 ⟨rfl,H1⟩
 rw [List.length_range] at H1 ⊢
 refine YD rfl (by rw [List.length_range'];unfold jb;w_up) fun p st2 l2 n2 hp=>?_
 have H2:=H1.new l2 n2 hp
 l_ints
 refine vE fun a d o st3 l3 na no hao ha ho=>?_
 have H3:=H2.new2 l3 na no hao ha ho
 have hu3:st3 A.u=some (uO A.d A.e A.bl (cnt+many)):=H3.get (by kst_mem)
 have hbl3:st3 A.bl=some (.list ((zs.map Z.a).map .ref)):=H3.get (by kst_mem)
 unfold uO at hu3
 l_ints
 refine ⟨jJ hbl3,?_⟩
 l_ints
 refine jI hbl3 hbl3 (by rw [List.length_map,List.length_map];unfold jb;w_up) fun st4 l4 h4=>⟨rfl,?_⟩
 have H4:=H.upd (A:=[_,_,_,_,_,_,_]) H3 l4 h4
 have ha4:=H4.get (show (a,_)∈_ from List.mem_cons_self ..)
 have hkn4:st4 kn=some (.list (jc ks)):=H4.get (by kst_mem)
 have hp4:st4 p=some (.list (jc (List.range' cnt many))):=H4.get (by kst_mem)
 have hpk:kn≠p:=by
  have:=H4.1
  simp only [List.cons_append,List.nil_append,List.map_cons,List.nodup_cons,List.mem_cons,not_or] at this
  exact fun e=>this.2.2.1.2.2.2.1 e.symm
 l_ints
 refine ⟨JG hkn4,?_⟩
 l_ints
 refine Yw hkn4 hkn4 hpk hp4 (by rw [je,je,List.length_range'];unfold jb;w_up) fun st5 l5 h5=>⟨rfl,?_⟩
 rw [js] at h5
 have H5:=H.upd (A:=[_,_,_,_,_,_]) H4 l5 h5
 have H6:H st5 (W A kn k s (cnt+many) (ks++List.range' cnt many) (zs++[⟨a,d,p,o,zs.length,List.range' cnt many,[],none,ks++List.range' cnt many⟩]) R):=by
  have:=H.perm H5 (jhF (a:=_) (o:=_) (p:=_) (C:=[_,_,_,_,_]) (Y:=zs.flatMap Z.objs) (R:=R))
  unfold W
  rw [List.map_append,List.map_append,List.flatMap_append]
  exact this
 l_ints
 refine jZ (many:=3) H6 (by w_up) hs (by decide) fun q s7 st7 hq hs7 H7=>?_
 refine ⟨_,rfl,⟨Int.natCast_nonneg _,Int.ofNat_lt.mpr (by unfold jb;w_up)⟩,?_⟩
 rw [Int.toNat_natCast]
 refine lp (mv:=fun i:Nat=>MV.int (i:Int)) (fun pre ρ st'=>∀ G:ja->St->Prop,(∀ (ops:List Op) (s':Int),ops.length=pre.length->xh (ks++List.range' cnt many) (cnt+many) ops->JN s'->H st' (W A kn (k+1+3*ops.length) s' (cnt+many+(ops.flatMap Op.writes).length) (ks++List.range' cnt many++ops.flatMap Op.writes) (zs++[⟨a,d,p,o,zs.length,List.range' cnt many,ops,none,ks++List.range' cnt many⟩]) R)->∀ x,G [("deck",some (.ref A.dk)),("unit",some (.ref A.u)),("known",some (.ref kn)),("many",some (.int (many:Nat))),("own",some (.ref a)),("turn",x)] st')->G ρ st')
   (fun _ q9=>q9 [] s7 rfl Gx hs7 (by rw [List.flatMap_nil,List.append_nil];exact H7) _) (fun _ _ _ _=>jH) ?_ ?_
 ·rintro pre i post e ρ st8 I1 K' hK'
  apply I1;intro ops s8 hl hops hs8 H8 x
  have hpl:pre.length<2+0+1:=by
   have:=congrArg List.length e
   rw [List.length_range,List.length_append,List.length_cons] at this;w_up
  have hwl:(ops.flatMap Op.writes).length≤2*ops.length:=by
   refine vU ops fun o ho=>?_
   obtain ⟨pr,po,he⟩:=List.append_of_mem ho
   exact (hops pr o po he).wl
  have hz8:=H8.get jfR
  have ho8:=H8.get jdb
  l_ints
  refine ⟨jJ ho8,?_⟩
  l_ints
  refine Q1 (d:=A.d) (e:=A.e) (bl:=A.bl) H8 (by w_up) hs8 (by rw [List.length_append,List.length_append];w_up) (by rw [List.length_append,List.length_append,List.length_range'];w_up) fun op s9 st9 hop hs9 H9=>?_
  have H9:H st9 (W A kn (k+1+3*ops.length+3) s9 (cnt+many+(ops.flatMap Op.writes).length+op.writes.length) (ks++List.range' cnt many++ops.flatMap Op.writes++op.writes) (zs++[⟨a,d,p,o,zs.length,List.range' cnt many,ops,none,ks++List.range' cnt many⟩]) R):=H9
  have ho9:=H9.get jdb
  l_ints
  refine jI ho8 ho9 (by rw [List.length_map];unfold jb;w_up) fun st10 l10 h10=>⟨rfl,?_⟩
  l_ints
  have e10:(ops++[op]).flatMap Op.writes=ops.flatMap Op.writes++op.writes:=by rw [List.flatMap_append,List.flatMap_cons,List.flatMap_nil,List.append_nil]
  refine hK' _ _ (fun _ q9=>q9 (ops++[op]) s9 (by rw [List.length_append,List.length_append,hl];rfl) (VW hops hop) hs9 (jfs H9 l10 h10 ?_ ?_ ?_) _)
  ·rw [List.length_append];rfl
  ·rw [e10,List.length_append,← Nat.add_assoc]
  ·rw [e10,← List.append_assoc]
 ·rintro ρ st8 I1
  apply I1;intro ops s8 hl hops hs8 H8 x
  rw [List.length_range] at hl
  l_ints
  exact hK ⟨a,d,p,o,zs.length,List.range' cnt many,ops,none,ks++List.range' cnt many⟩ s8 st8 rfl rfl rfl rfl (show ops.length≤2 by w_up) hops hs8 H8
noncomputable def Z.wr(z:Z):List Nat:=z.ops.flatMap Op.writes
noncomputable def Z.defs(z:Z):List Nat:=z.params++z.wr
structure SI(en:List Nat)(cnt:Nat)(zs:List Z)(op pend:List Nat):Prop where
 ord:en++zs.flatMap Z.defs=List.range cnt
 idx:∀ (i:Nat) (z:Z),zs[i]? = some z->z.i=i
 p0:∀ z:Z,zs[0]? = some z->z.params=[]
 small:∀ z∈zs,z.ops.length≤2/\z.params.length≤2/\∀ o∈z.ops,o.reads.length≤4/\o.writes.length≤2
 rd:∀ z∈zs,∀ o∈z.ops,∀ r∈o.reads,r<cnt
 uf:∀ z∈zs,∀ r,UF r z.ops->r∈z.av
 par:∀ z∈zs,∀ r∈z.params,r∈z.av
 old:∀ (i:Nat) (z:Z) (r:Nat),zs[i]? = some z->r∈z.av->r∈en\/r∈z.params\/∃ (j:Nat) (z':Z),j<i/\zs[j]? = some z'/\r∈z'.defs
 closed:∀ (i:Nat) (z:Z) (E:En),zs[i]? = some z->z.fin=some E->(∀ r∈E.reads,r∈z.av\/r∈z.wr)/\E.reads.length≤4 /\
  ∀ c∈E.next,∃ zc:Z,zs[c]? = some zc/\∀ r∈zc.av,r∉zc.params->r∈z.av\/r∈z.wr
 opn:∀ (i:Nat) (z:Z),zs[i]? = some z->z.fin=none->i∈op
 pred:∀ c,0<c->c<zs.length->c∈pend\/∃ (i:Nat) (z:Z) (E:En),i<c/\zs[i]? = some z/\z.fin=some E/\c∈E.next
theorem Qb{en:List Nat}{cnt:Nat}{zs:List Z}(h:en++zs.flatMap Z.defs=List.range cnt):(∀ r∈en,r<cnt)/\∀ z∈zs,∀ r∈z.defs,r<cnt:=by
 refine ⟨fun r hr=>List.mem_range.mp (by rw [← h];simp [hr]),fun z hz r hr=>List.mem_range.mp ?_⟩
 rw [← h]
 exact List.mem_append_right _ (List.mem_flatMap.mpr ⟨z,hz,hr⟩)
theorem SI.av_lt{en:List Nat}{cnt:Nat}{zs:List Z}{op pend:List Nat}(h:SI en cnt zs op pend){z:Z}(hz:z∈zs):∀ r∈z.av,r<cnt:=fun r hr=>by
 obtain ⟨i,hi⟩:=List.mem_iff_getElem?.mp hz
 have hd:=Qb h.ord
 rcases h.old i z r hi hr with h1 | h1 | ⟨j,z',_,hj,h1⟩
 ·exact hd.1 r h1
 ·exact hd.2 z hz r (List.mem_append_left _ h1)
 ·exact hd.2 z' (List.mem_of_getElem? hj) r h1
theorem jdG{cnt:Nat}{ks:List Nat}{ops:List Op}(h:xh ks cnt ops):∀ r,UF r ops->r∈ks:=by
 have key:∀ (post pre:List Op),ops=pre++post->∀ r,UF r post->r∉pre.flatMap Op.writes->r∈ks:=by
  intro post
  induction post with
  |nil=>intro pre e r hr;exact hr.elim
  |cons o os ih =>
   intro pre e r hr hn
   rcases hr with hr | ⟨hw,hr⟩
   ·have:=(h pre o os e).reads r hr
    rcases List.mem_append.mp this with h1 | h1
    ·exact h1
    ·exact absurd h1 hn
   ·refine ih (pre++[o]) (by rw [e];simp) r hr ?_
    rw [yx]
    simp only [List.mem_append,not_or]
    exact ⟨hn,hw⟩
 intro r hr
 exact key ops [] rfl r hr (by simp)
theorem v9{cnt:Nat}{ks:List Nat}{ops:List Op}(h:xh ks cnt ops):ops.flatMap Op.writes=List.range' cnt (ops.flatMap Op.writes).length:=by
 have key:∀ (post pre:List Op),ops=pre++post->post.flatMap Op.writes=List.range' (cnt+(pre.flatMap Op.writes).length) (post.flatMap Op.writes).length:=by
  intro post
  induction post with
  |nil=>intro pre e;rfl
  |cons o os ih =>
   intro pre e
   have h1:=ih (pre++[o]) (by rw [e];simp)
   have h2:=(h pre o os e).writes
   rw [yx,List.length_append,← Nat.add_assoc] at h1
   rw [List.flatMap_cons,List.length_append,← List.range'_append_1,← h1,← h2]
 exact key ops [] rfl
theorem U2{α:Type}{xs:List α}{x y:α}{i:Nat}(h:(xs++[x])[i]? = some y):(i<xs.length/\xs[i]? = some y)\/(i=xs.length/\y=x):=by
 rcases zW h with h | ⟨h1,h2⟩
 ·exact Or.inl h
 ·exact Or.inr ⟨h1,h2.symm⟩
theorem xq{α:Type}{xs:List α}{x y:α}{i:Nat}{G:Nat->α->Prop}(h:(xs++[x])[i]? = some y)(a:G xs.length x)(b:xs[i]? = some y->G i y):G i y :=
 (U2 h).elim (fun q=>b q.2) fun q=>by rw [q.1,q.2];exact a
theorem zY{α:Type}{xs:List α}{x y:α}{Q:α->Prop}(h:y∈xs++[x])(a:Q x)(b:y∈xs->Q y):Q y:=(List.mem_append.mp h).elim b fun q=>(List.mem_singleton.mp q).symm▸a
theorem yl{α:Type}{xs ys:List α}{i:Nat}{x:α}(h:xs[i]? = some x):(xs++ys)[i]? = some x:=by
 rw [List.getElem?_append_left (List.getElem?_eq_some_iff.mp h).1];exact h
def Known(en:List Nat)(zs:List Z)(ks:List Nat):Prop:=∀ r∈ks,r∈en\/∃ (j:Nat) (z':Z),zs[j]? = some z'/\r∈z'.defs
theorem jeb{en ks:List Nat}{cnt many:Nat}{zs:List Z}{op pend:List Nat}{z:Z}(h:SI en cnt zs op pend)(hks:Known en zs ks)(hkl:∀ r∈ks,r<cnt)(hi:z.i=zs.length)(hf:z.fin=none)(hp:z.params=List.range' cnt many)(hm:many≤2)(h0:zs=[]->many=0)
  (ha:z.av=ks++z.params) (hl:z.ops.length≤2) (ho:xh (ks++z.params) (cnt+many) z.ops):SI en (cnt+many+(z.ops.flatMap Op.writes).length) (zs++[z]) (zs.length::op) (zs.length::pend) where
 ord:=by
  have e1:z.defs=List.range' cnt (many+(z.ops.flatMap Op.writes).length):=by
   have hw:=v9 ho
   unfold Z.defs Z.wr
   rw [hp]
   rw [← List.range'_append_1,← hw]
  rw [List.flatMap_append,← List.append_assoc,h.ord]
  simp only [List.flatMap_cons,List.flatMap_nil,List.append_nil]
  rw [e1,Nat.add_assoc,List.range_eq_range',List.range_eq_range']
  have e2:∀ m,List.range' 0 cnt++List.range' cnt m=List.range' 0 (cnt+m):=fun m=>by
   have:=List.range'_append_1 (s:=0) (m:=cnt) (n:=m)
   rwa [Nat.zero_add] at this
  exact e2 _
 idx:=fun i y hy=>xq (G:=fun i y=>y.i=i) hy hi fun hy=>h.idx i y hy
 p0:=fun y hy=>xq (G:=fun j y=>j=0->y.params=[]) hy (fun e=>by rw [hp,h0 (List.length_eq_zero_iff.mp e)];rfl) (fun hy _=>h.p0 y hy) rfl
 small:=fun y hy=>by
  apply zY hy
  ·refine ⟨hl,by rw [hp,List.length_range'];exact hm,fun o hoo=>?_⟩
   obtain ⟨pre,post,e⟩:=List.append_of_mem hoo
   exact ⟨(ho pre o post e).rl,(ho pre o post e).wl⟩
  ·exact h.small y
 rd:=fun y hy=>by
  apply zY hy
  ·intro o hoo r hr
   obtain ⟨pre,post,e⟩:=List.append_of_mem hoo
   rcases List.mem_append.mp ((ho pre o post e).reads r hr) with h1 | h1
   ·exact Nat.lt_of_lt_of_le ((List.mem_append.mp h1).elim (fun h1=>Nat.lt_of_lt_of_le (hkl r h1) (Nat.le_add_right ..)) fun h1=>(List.mem_range'_1.mp (hp▸h1)).2) (Nat.le_add_right ..)
   ·have:r∈z.ops.flatMap Op.writes:=by rw [e,List.flatMap_append];exact List.mem_append_left _ h1
    rw [v9 ho] at this
    exact (List.mem_range'_1.mp this).2
  ·exact fun hy o hoo r hr=>Nat.lt_of_lt_of_le (h.rd y hy o hoo r hr) (Nat.le_trans (Nat.le_add_right ..) (Nat.le_add_right ..))
 uf:=fun y hy=>by
  apply zY hy
  ·exact fun r hr=>by rw [ha];exact jdG ho r hr
  ·exact h.uf y
 par:=fun y hy=>by
  apply zY hy
  ·exact fun r hr=>by rw [ha];exact List.mem_append_right _ hr
  ·exact h.par y
 old:=fun i y r hy=>by
  apply xq hy
  ·intro hr
   rw [ha] at hr
   exact (List.mem_append.mp hr).elim (fun hr=>(hks r hr).imp id fun q=>.inr (q.elim fun j q=>q.elim fun z' q=>⟨j,z',(List.getElem?_eq_some_iff.mp q.1).1,yl q.1,q.2⟩)) fun hr=>.inr (.inl hr)
  ·exact fun hy hr=>(h.old i y r hy hr).imp id (.imp id fun q=>q.elim fun j q=>q.elim fun z' q=>⟨j,z',q.1,yl q.2.1,q.2.2⟩)
 closed:=fun i y E hy=>by
  apply xq hy
  ·exact fun hE=>(nomatch hf.symm.trans hE)
  ·exact fun hy hE=>⟨(h.closed i y E hy hE).1,(h.closed i y E hy hE).2.1,fun c hc=>((h.closed i y E hy hE).2.2 c hc).elim fun zc q=>⟨zc,yl q.1,q.2⟩⟩
 opn:=fun i y hy=>by
  apply xq hy
  ·exact fun _=>List.mem_cons_self ..
  ·exact fun hy hE=>List.mem_cons_of_mem _ (h.opn i y hy hE)
 pred:=fun c hc hl=>by
  rw [List.length_append,List.length_singleton] at hl
  by_cases e:c=zs.length
  ·exact Or.inl (by rw [e];exact List.mem_cons_self ..)
  ·rcases h.pred c hc (by w_up) with h1 | ⟨i,y,E,h1,h2,h3,h4⟩
   ·exact Or.inl (List.mem_cons_of_mem _ h1)
   ·exact Or.inr ⟨i,y,E,h1,yl h2,h3,h4⟩
noncomputable def Z.close(z:Z)(E:En):Z:={ z with fin:=some E }
set_option tactic.hygienic true in
theorem jbd{α:Type}{xs:List α}{x y:α}{i j:Nat}(h:(xs.set i x)[j]? = some y):(i=j/\y=x)\/(i≠j/\xs[j]? = some y):=by
 rw [List.getElem?_set] at h
 split at h
 ·rename_i e
  split at h
  ·exact Or.inl ⟨e,(Option.some.inj h).symm⟩
  ·cases h
 ·rename_i e;exact Or.inr ⟨e,h⟩
theorem zJ{α:Type}{xs:List α}{x y:α}{i j:Nat}{G:Nat->α->Prop}(h:(xs.set i x)[j]? = some y)(a:G i x)(b:i≠j->xs[j]? = some y->G j y):G j y :=
 (jbd h).elim (fun q=>by rw [← q.1,q.2];exact a) fun q=>b q.1 q.2
theorem vp{α:Type}{xs:List α}{x y:α}{i:Nat}{Q:α->Prop}(h:y∈xs.set i x)(a:Q x)(b:y∈xs->Q y):Q y:=(List.mem_or_eq_of_mem_set h).elim b fun q=>q▸a
structure jef(zs:List Z)(h:Nat)(z:Z)(E:En)(j:Nat)(y y':Z):Prop where
 g:(zs.set h (z.close E))[j]? = some y'
 p:y'.params=y.params
 o:y'.ops=y.ops
 a:y'.av=y.av
 n:h≠j->y'=y
theorem QB{zs:List Z}{h j:Nat}{z y:Z}{E:En}(hh:zs[h]? = some z)(hj:zs[j]? = some y):∃ y',jef zs h z E j y y':=by
 by_cases e:h=j
 ·rw [← e] at hj ⊢
  have q:z=y:=Option.some.inj (hh.symm.trans hj)
  rw [← q]
  exact ⟨z.close E,List.getElem?_set_self (List.getElem?_eq_some_iff.mp hh).1,rfl,rfl,rfl,fun hn=>absurd rfl hn⟩
 ·exact ⟨y,(List.getElem?_set_ne e).trans hj,rfl,rfl,rfl,fun _=>rfl⟩
set_option tactic.hygienic true in
theorem VZ{zs:List Z}{h:Nat}{z:Z}{E:En}(hh:zs[h]? = some z):(zs.set h (z.close E)).flatMap Z.defs=zs.flatMap Z.defs:=by
 unfold List.flatMap
 rw [List.map_set]
 congr 1
 refine List.ext_getElem? fun j=>?_
 rw [List.getElem?_set]
 split
 ·rename_i e;subst e
  rw [List.length_map,if_pos (List.getElem?_eq_some_iff.mp hh).1,List.getElem?_map,hh];rfl
 ·rfl
theorem xy{en:List Nat}{cnt:Nat}{zs:List Z}{op pend:List Nat}{h:Nat}{z:Z}{E:En}(hS:SI en cnt zs op pend)(hh:zs[h]? = some z)(hf:z.fin=none)
  (hr:∀ r∈E.reads,r∈z.av\/r∈z.wr) (hl:E.reads.length≤4) (hn:∀ c∈E.next,∃ zc:Z,zs[c]? = some zc/\∀ r∈zc.av,r∉zc.params->r∈z.av\/r∈z.wr) :
  SI en cnt (zs.set h (z.close E)) (op.filter fun i=>decide (i≠h)) (pend.filter fun c=>!decide (c∈E.next/\h<c)) where
 ord:=by rw [VZ hh];exact hS.ord
 idx:=fun i y hy=>zJ (G:=fun i y=>y.i=i) hy (hS.idx _ z hh) fun _ hy=>hS.idx i y hy
 p0:=fun y hy=>zJ (G:=fun j y=>j=0->y.params=[]) hy (fun e=>hS.p0 z (e▸hh)) (fun _ hy _=>hS.p0 y hy) rfl
 small:=fun y hy=>by apply vp hy;exact hS.small z (List.mem_of_getElem? hh);exact hS.small y
 rd:=fun y hy=>by apply vp hy;exact hS.rd z (List.mem_of_getElem? hh);exact hS.rd y
 uf:=fun y hy=>by apply vp hy;exact hS.uf z (List.mem_of_getElem? hh);exact hS.uf y
 par:=fun y hy=>by apply vp hy;exact hS.par z (List.mem_of_getElem? hh);exact hS.par y
 old:=fun i y r hy hr=>by
  have lift:∀ {i},(∃ (j:Nat) (z':Z),j<i/\zs[j]? = some z'/\r∈z'.defs)->∃ (j:Nat) (z':Z),j<i/\(zs.set h (z.close E))[j]? = some z'/\r∈z'.defs:=fun ⟨j,z',h1,h2,h3⟩ =>
   (QB (E:=E) hh h2).elim fun y' e=>⟨j,y',h1,e.g,by unfold Z.defs Z.wr at h3 ⊢;rw [e.p,e.o];exact h3⟩
  revert hr
  apply zJ hy
  ·exact fun hr=>(hS.old h z r hh hr).imp id (.imp id lift)
  ·exact fun _ hy hr=>(hS.old i y r hy hr).imp id (.imp id lift)
 closed:=fun i y F hy hF=>by
  have lift:(∀ c∈F.next,∃ zc:Z,zs[c]? = some zc/\∀ r∈zc.av,r∉zc.params->r∈y.av\/r∈y.wr)->∀ c∈F.next,∃ zc:Z,(zs.set h (z.close E))[c]? = some zc/\∀ r∈zc.av,r∉zc.params->r∈y.av\/r∈y.wr:=fun h0 c hc =>
   (h0 c hc).elim fun zc q=>(QB (E:=E) hh q.1).elim fun y' e=>⟨y',e.g,by rw [e.a,e.p];exact q.2⟩
  revert lift hF
  apply zJ hy
  ·intro hF lift
   have e:E=F:=Option.some.inj hF
   rw [← e] at lift ⊢
   exact ⟨hr,hl,lift hn⟩
  ·exact fun _ hy hF lift=>⟨(hS.closed i y F hy hF).1,(hS.closed i y F hy hF).2.1,lift (hS.closed i y F hy hF).2.2⟩
 opn:=fun i y hy hF=>by
  revert hF
  apply zJ hy
  ·exact fun hF=>(nomatch hF)
  ·exact fun hne hy hF=>List.mem_filter.mpr ⟨hS.opn i y hy hF,by simpa using Ne.symm hne⟩
 pred:=fun c hc hlen=>by
  rw [List.length_set] at hlen
  rcases hS.pred c hc hlen with h1 | ⟨i,y,F,h1,h2,h3,h4⟩
  ·by_cases e:c∈E.next/\h<c
   ·exact Or.inr ⟨h,z.close E,E,e.2,List.getElem?_set_self (List.getElem?_eq_some_iff.mp hh).1,rfl,e.1⟩
   ·exact Or.inl (List.mem_filter.mpr ⟨h1,by simp [e]⟩)
  ·obtain ⟨y',e⟩:=QB (E:=E) hh h2
   have hne:h≠i:=fun q=>by rw [← q,hh] at h2;rw [← Option.some.inj h2,hf] at h3;cases h3
   exact Or.inr ⟨i,y',F,h1,e.g,by rw [e.n hne];exact h3,h4⟩
theorem W_out{A:Ad}{kn k cnt:Nat}{s:Int}{ks:List Nat}{zs:List Z}{R:HL}{x:Nat×MObj}:(W A kn k s cnt ks zs (x::R)).Perm (x::W A kn k s cnt ks zs R):=by
 have:W A kn k s cnt ks zs (x::R)=W A kn k s cnt ks zs []++x::R:=by unfold W;simp
 rw [this]
 refine List.perm_middle.trans ?_
 have:W A kn k s cnt ks zs []++R=W A kn k s cnt ks zs R:=by unfold W;simp
 rw [this]
theorem Qs{A:Ad}{kn kn2 k cnt:Nat}{s:Int}{ks ks2:List Nat}{zs:List Z}{R:HL}:(W A kn k s cnt ks zs ((kn2,.list (jc ks2))::R)).Perm (W A kn2 k s cnt ks2 zs ((kn,.list (jc ks))::R)):=by
 refine W_out.trans (List.Perm.trans ?_ W_out.symm)
 unfold W
 generalize (A.bl,MObj.list ((zs.map Z.a).map .ref))::(zs.flatMap Z.objs++R)=T
 generalize (A.dk,jO A.sc k s)=a
 generalize (A.sc,scO A.xs)=b
 generalize (A.u,uO A.d A.e A.bl cnt)=c
 generalize (kn2,MObj.list (jc ks2))=x
 generalize (kn,MObj.list (jc ks))=y
 have h1:(x::a::b::c::y::T).Perm (a::b::c::x::y::T):=((List.Perm.swap a x _).trans ((List.Perm.swap b x _).cons a)).trans (((List.Perm.swap c x _).cons b).cons a)
 have h2:(y::a::b::c::x::T).Perm (a::b::c::y::x::T):=((List.Perm.swap a y _).trans ((List.Perm.swap b y _).cons a)).trans (((List.Perm.swap c y _).cons b).cons a)
 exact h1.trans ((((List.Perm.swap y x T).cons c).cons b).cons a |>.trans h2.symm)
theorem jdc{A:Ad}{kn k cnt a:Nat}{s:Int}{ks:List Nat}{zs:List Z}{R1 R2:HL}{o o':MObj}{st st':St}(h:H st (W A kn k s cnt ks zs (R1++(a,o)::R2)))(x:Lx [a] st st')(e:st' a=some o'):H st' (W A kn k s cnt ks zs (R1++(a,o')::R2)):=by
 have e1:∀ o,W A kn k s cnt ks zs (R1++(a,o)::R2)=W A kn k s cnt ks zs R1++(a,o)::R2:=fun o=>by unfold W;simp
 rw [e1] at h ⊢
 exact H.upd h x e
theorem uk{A:Ad}{kn k cnt:Nat}{s:Int}{ks:List Nat}{zs:List Z}{R:HL}{z:Z}(h:z∈zs):(z.a,z.inst)∈W A kn k s cnt ks zs R:=by
 unfold W
 simp only [List.mem_cons,List.mem_append,List.mem_flatMap]
 exact Or.inr (Or.inr (Or.inr (Or.inr (Or.inr (Or.inl ⟨z,h,by simp [Z.objs]⟩)))))
theorem jcy{A:Ad}{kn k cnt i:Nat}{s:Int}{ks:List Nat}{zs:List Z}{R:HL}{z:Z}{st:St}(h:H st (W A kn k s cnt ks zs R))(g:zs[i]? = some z)(e:z.i=i):st z.a=some (.inst "LowBlock" z.d [("number",.int (i:Nat)),("params",.ref z.p),("ops",.ref z.o),("end",z.endv)]):=by
 subst e;exact h.get (uk (List.mem_of_getElem? g))
theorem ap0{α:Type}{l r:List α}{x:α}:(l++x::r)[l.length]? = some x:=by simp
theorem ap1{α:Type}{l r:List α}{x a:α}:(l++a::x::r)[l.length+1]? = some x:=by rw [List.getElem?_append_right (Nat.le_add_right _ _),Nat.add_sub_cancel_left];rfl
theorem ap2{α:Type}{l r:List α}{x a b:α}:(l++a::b::x::r)[l.length+2]? = some x:=by rw [List.getElem?_append_right (Nat.le_add_right _ _),Nat.add_sub_cancel_left];rfl
theorem sne{α:Type}{l:List α}{i j:Nat}{x y:α}(h:l[i]? = some x)(n:j≠i):(l.set j y)[i]? = some x:=by rw [List.getElem?_set_ne n];exact h
theorem W_R{A:Ad}{kn k cnt:Nat}{s:Int}{ks:List Nat}{zs:List Z}{R:HL}{x:Nat×MObj}(h:x∈R):x∈W A kn k s cnt ks zs R:=by
 unfold W;simp [h]
theorem jdP{A:Ad}{kn k cnt:Nat}{s:Int}{ks:List Nat}{zs:List Z}{R:HL}:(kn,MObj.list (jc ks))∈W A kn k s cnt ks zs R:=by
 unfold W;simp
set_option tactic.hygienic true in
theorem zB{A:Ad}{kn k cnt h:Nat}{s:Int}{ks:List Nat}{zs:List Z}{R:HL}{z:Z}{E:En}{st:St}{P:St->Prop}(hh:H st (W A kn k s cnt ks zs R))(hz:zs[h]? = some z)(hk:∀ st',H st' (W A kn k s cnt ks (zs.set h (z.close E)) R)->P st') :
  JI (.ref z.a) "end" E.mv st P:=by
 obtain ⟨hl,he⟩:=List.getElem?_eq_some_iff.mp hz
 have e1:zs=zs.take h++z::zs.drop (h+1):=by
  conv=>lhs;rw [← List.take_append_drop h zs]
  rw [List.drop_eq_getElem_cons hl,he]
 have e2:zs.set h (z.close E)=zs.take h++z.close E::zs.drop (h+1):=List.set_eq_take_append_cons_drop .. |>.trans (by rw [if_pos hl])
 have h0:st z.a=some z.inst:=hh.get (uk (List.mem_of_getElem? hz))
 unfold Z.inst at h0
 refine sax h0 (ble rfl) fun st' l' h'=>hk st' ?_
 have h':st' z.a=some (z.close E).inst:=h'
 have ea:(zs.set h (z.close E)).map Z.a=zs.map Z.a:=by
  rw [List.map_set]
  refine List.ext_getElem? fun j=>?_
  rw [List.getElem?_set]
  split
  ·rename_i e;subst e
   rw [List.length_map,if_pos hl,List.getElem?_map,hz];rfl
  ·rfl
 have e3:∀ y:Z,W A kn k s cnt ks (zs.take h++y::zs.drop (h+1)) R=((A.dk,jO A.sc k s)::(A.sc,scO A.xs)::(A.u,uO A.d A.e A.bl cnt)::(kn,.list (jc ks))::(A.bl,.list (((zs.take h++y::zs.drop (h+1)).map Z.a).map .ref))::(zs.take h).flatMap Z.objs) ++
   (y.a,y.inst)::((y.p,.list (jc y.params))::(y.o,.list (y.ops.map Op.mv))::((zs.drop (h+1)).flatMap Z.objs++R)):=fun y=>by
  unfold W
  rw [List.flatMap_append,List.flatMap_cons]
  simp [Z.objs]
 rw [e1,e3] at hh
 have:=H.upd hh l' h'
 rw [e2,e3]
 rw [← e1] at this
 rw [← e2,ea]
 exact this
structure BS(A:Ad)(kn h:Nat)(en:List Nat)(st:St)(R:HL)(k cnt:Nat)(s:Int)(ks:List Nat)(zs:List Z)(z:Z):Prop where
 hp:H st (W A kn k s cnt ks zs R)
 si:SI en cnt zs [h] []
 here:zs[h]? = some z
 fin:z.fin=none
 kse:ks=z.av++z.wr
 sok:JN s
 ne:0<ks.length
 kl:ks.length≤cnt
theorem SI.mono{en:List Nat}{cnt:Nat}{zs:List Z}{op op' pend pend':List Nat}(h:SI en cnt zs op pend)(ho:∀ i∈op,i∈op')(hp:∀ i∈pend,i∈pend'):SI en cnt zs op' pend' :=
 ⟨h.ord,h.idx,h.p0,h.small,h.rd,h.uf,h.par,h.old,h.closed,fun i z a b=>ho i (h.opn i z a b),fun c a b=>(h.pred c a b).imp (hp c) id⟩
theorem SI.known{en:List Nat}{cnt h:Nat}{zs:List Z}{op pend:List Nat}{z:Z}(hS:SI en cnt zs op pend)(hz:zs[h]? = some z):Known en zs (z.av++z.wr)/\∀ r∈z.av++z.wr,r<cnt:=by
 have hm:=List.mem_of_getElem? hz
 refine ⟨fun r hr=>?_,fun r hr=>?_⟩
 ·rcases List.mem_append.mp hr with hr | hr
  ·rcases hS.old h z r hz hr with h1 | h1 | ⟨j,z',_,h2,h3⟩
   ·exact Or.inl h1
   ·exact Or.inr ⟨h,z,hz,List.mem_append_left _ h1⟩
   ·exact Or.inr ⟨j,z',h2,h3⟩
  ·exact Or.inr ⟨h,z,hz,List.mem_append_right _ hr⟩
 ·rcases List.mem_append.mp hr with hr | hr
  ·exact hS.av_lt hm r hr
  ·exact (Qb hS.ord).2 z hm r (List.mem_append_right _ hr)
theorem Known.mono{en ks:List Nat}{zs ys:List Z}(h:Known en zs ks):Known en (zs++ys) ks:=fun r hr=>by
 rcases h r hr with h1 | ⟨j,z',h1,h2⟩
 ·exact Or.inl h1
 ·exact Or.inr ⟨j,z',yl h1,h2⟩
theorem jeq{z:Z}(h:z.ops.length≤2)(hw:∀ o∈z.ops,o.writes.length≤2):(z.ops.flatMap Op.writes).length≤4:=by
 have:∀ l:List Op,(∀ o∈l,o.writes.length≤2)->(l.flatMap Op.writes).length≤2*l.length:=by
  intro l
  induction l with
  |nil=>intro _;simp
  |cons y l ih =>
   intro hl
   have h1:=ih fun o ho=>hl o (List.mem_cons_of_mem _ ho)
   have h2:=hl y (List.mem_cons_self ..)
   rw [List.flatMap_cons,List.length_append,List.length_cons];w_up
 have:=this z.ops hw
 w_up
theorem JL{n kn k cnt many:Nat}{A:Ad}{s:Int}{en ks:List Nat}{zs:List Z}{op pend:List Nat}{R:HL}{st:St}{K:MV->St->Prop}
  (h:H st (W A kn k s cnt ks zs R)) (hS:SI en cnt zs op pend) (hks:Known en zs ks) (hkc:∀ r∈ks,r<cnt) (hk:k+10<1000000) (hs:JN s) (hne:0<ks.length) (hkl:ks.length<900) (hm:many≤2) (hz:zs.length<1000) (h0:zs=[]->many=0)
  (hK:∀ z k' cnt' s' st',z.i=zs.length->z.fin=none->z.params.length=many->z.av=ks++z.params->JN s'->SI en cnt' (zs++[z]) (zs.length::op) (zs.length::pend)->k'≤k+7->cnt'=cnt+many+z.wr.length->z.wr.length≤4 ->
   H st' (W A kn k' s' cnt' (z.av++z.wr) (zs++[z]) R)->K (.ref z.a) st'):Cl (n+4) "_law_block" [.ref A.dk,.ref A.u,.ref kn,.int many] st K:=by
 refine vZ h hk hs hne hkl (by w_up) hz fun z s' st' hi hf hp ha hl ho hs' H'=>?_
 have hS':=jeb hS hks hkc hi hf hp hm h0 ha hl ho
 refine hK z (k+1+3*z.ops.length) (cnt+many+(z.ops.flatMap Op.writes).length) s' st' hi hf (by rw [hp,List.length_range']) ha hs' hS' (by w_up) rfl ?_ ?_
 ·exact jeq hl fun o hoo=>((hS'.small z (by simp)).2.2 o hoo).2
 ·rw [← ha] at H';exact H'
theorem W_F{A:Ad}{kn cnt:Nat}{ks:List Nat}{zs:List Z}{R:HL}{x:Nat×MObj}(h:x∈R):x∈((A.u,uO A.d A.e A.bl cnt)::(kn,MObj.list (jc ks))::(A.bl,MObj.list ((zs.map Z.a).map .ref))::(zs.flatMap Z.objs++R):HL):=by simp [h]
theorem X4{A:Ad}{kn cnt:Nat}{ks:List Nat}{zs:List Z}{R:HL}:(kn,MObj.list (jc ks))∈((A.u,uO A.d A.e A.bl cnt)::(kn,MObj.list (jc ks))::(A.bl,MObj.list ((zs.map Z.a).map .ref))::(zs.flatMap Z.objs++R):HL):=by simp
theorem H.drop{A:Ad}{kn k cnt:Nat}{s:Int}{ks:List Nat}{zs:List Z}{R:HL}{x:Nat×MObj}{st:St}(h:H st (W A kn k s cnt ks zs (x::R))):H st (W A kn k s cnt ks zs R):=(h.perm W_out).tail
theorem H.add{A:Ad}{kn k cnt a:Nat}{s:Int}{ks:List Nat}{zs:List Z}{R:HL}{o:MObj}{st st':St}(h:H st (W A kn k s cnt ks zs R))(l:Le st st')(n:st a=none)(e:st' a=some o):H st' (W A kn k s cnt ks zs ((a,o)::R)):=(h.new l n e).perm W_out.symm
theorem jbM{α:Type}{l:List α}(h:l.length=2):∃ a b,l=[a,b]:=by
 cases l with
 |nil=>cases h
 |cons a l=>cases l with
  |nil=>cases h
  |cons b l=>exact ⟨a,b,by rw [List.length_eq_zero_iff.mp (Nat.succ.inj (Nat.succ.inj h))]⟩
theorem mt1{N h i:Nat}(e1:i≠h)(e2:i≠N+1)(e3:i≠N)(t:i=N+2\/(N≤i/\i<N+2)\/i=h):i=N+2:=by w_up
theorem mt2{N h i:Nat}(hh:h<N)(e1:¬((i=N\/i=N+1)/\h<i))(e2:¬(i=N+2/\N+1<i))(e3:i=N+2\/N≤i/\i<N+2):False:=by w_up
theorem qq{n kn h k cnt many:Nat}{A:Ad}{s:Int}{en ks:List Nat}{zs:List Z}{z:Z}{R:HL}{st:St}{K:MV->St->Prop}(b:BS A kn h en st R k cnt s ks zs z)(hk:k+100<1000000)(hc:cnt<800)(hz:zs.length<900)(hm:many≤2)
  (hK:∀ k' cnt' s' ks' zs' h' z' st',BS A kn h' en st' R k' cnt' s' ks' zs' z'->k'≤k+40->cnt'≤cnt+20->zs'.length≤zs.length+3->K (.ref z'.a) st'):Cl (n+5) "_law_meeting" [.ref A.dk,.ref A.u,.ref z.a,.ref kn,.int many] st K:=by
 refine jr (fn:=fn_law_meeting) (by decide) rfl rfl ?_
 unfold fn_law_meeting
 one_place
 obtain ⟨hH,hS,hh,hf,hks,hs,hne,hkl⟩:=b
 have hkn:=hS.known hh
 rw [← hks] at hkn
 l_ints
 intro wy st1 l1 n1 hwy
 have H1:=hH.add l1 n1 hwy
 l_ints
 intro sp st2 l2 n2 hsp
 have H2:=H1.add l2 n2 hsp
 l_ints
 refine Qy rfl ?_
 l_ints
 refine ⟨by decide,?_⟩
 have hlt:h<zs.length:=(List.getElem?_eq_some_iff.mp hh).1
 refine lp (mv:=fun i:Nat=>MV.int (i:Int)) (fun pre ρ st'=>∀ G:ja->St->Prop,(∀ (new:List (Z×List Nat)) (k' cnt':Nat) (s':Int),new.length=pre.length->JN s'->k'≤k+9*pre.length->cnt'≤cnt+4*pre.length->cnt≤cnt'->SI en cnt' (zs++new.map (·.1)) ((List.range' zs.length pre.length)++[h]) (List.range' zs.length pre.length)->(∀ p∈new,p.1.fin=none/\p.1.params=[]/\p.1.av=ks/\p.2.length=many/\∀ r∈p.2,r∈p.1.av\/r∈p.1.wr)->(H st' (W A kn k' s' cnt' ks (zs++new.map (·.1)) ((sp,.list (new.map fun p=>.tup (jc p.2)))::(wy,.list (new.map fun p=>.ref p.1.a))::R)))->∀ x y,G [("deck",some (.ref A.dk)),("unit",some (.ref A.u)),("here",some (.ref z.a)),("known",some (.ref kn)),("many",some (.int (many:Nat))),("ways",some (.ref wy)),("spots",some (.ref sp)),("turn",x),("own",y),("join",none),("way",none),("row",none)] st')->G ρ st')
   (fun _ q9=>q9 [] k cnt s rfl hs (by simp) (by simp) (Nat.le_refl _) (by simpa using hS) (by simp) (by simpa using H2) _ _) (fun _ _ _ _=>jH) ?_ ?_
 ·rintro pre i post e ρ st3 I1 K' hK'
  apply I1;intro new k3 c3 s3 hl3 hs3 hk3 hc3 hc3' hS3 hn3 H3 x y
  have hpre:pre.length<2:=by
   have:=congrArg List.length e
   rw [List.length_append,List.length_cons] at this
   have h2:(List.range (Int.toNat 2)).length=2:=rfl
   rw [h2] at this;w_up
  have hkn3:st3 kn=some (.list (jc ks)):=H3.get jdP
  have hnl:(zs++new.map (·.1)).length=zs.length+pre.length:=by rw [List.length_append,List.length_map,hl3]
  l_ints
  refine ⟨by rw [je];unfold jb;w_up,al fun ow st4 l4 n4 how=>?_⟩
  have H4:=(H3.add l4 n4 how).perm Qs
  have hwy4:st4 wy=some (.list (new.map fun p:Z×List Nat=>MV.ref p.1.a)):=H4.get (W_R (by kst_mem))
  l_ints
  refine ⟨jJ hwy4,?_⟩
  l_ints
  refine JL (many:=0) H4 hS3 hkn.1.mono (fun r hr=>Nat.lt_of_lt_of_le (hkn.2 r hr) hc3') (by w_up) hs3 hne (by w_up) (by w_up) (by w_up) (fun _=>rfl) fun w k5 c5 s5 st5 hwi hwf hwp hwa hs5 hS5 hk5 hc5 hwl H5=>?_
  have hwp0:w.params=[]:=List.length_eq_zero_iff.mp hwp
  have hwav:w.av=ks:=by rw [hwa,hwp0,List.append_nil]
  have hwy5:st5 wy=some (.list (new.map fun p:Z×List Nat=>MV.ref p.1.a)):=H5.get (W_R (by kst_mem))
  l_ints
  refine jI hwy4 hwy5 (by rw [List.length_map,hl3];unfold jb;w_up) fun st6 l6 h6=>⟨rfl,?_⟩
  have H6:=jdc (R1:=[_,_]) H5 l6 h6
  have hsp6:st6 sp=some (.list (new.map fun p:Z×List Nat=>MV.tup (jc p.2))):=H6.get (W_R (by kst_mem))
  l_ints
  refine ⟨jJ hsp6,?_⟩
  l_ints
  refine yn (it:=ow) (is:=w.av++w.wr) H6 (by w_up) (by w_up) hs5 X4 (by rw [List.length_append,hwav];w_up) fun row s7 st7 hrl hrm hs7 H7=>?_
  have H7:H st7 (W A ow (k5+many) s7 c5 (w.av++w.wr) (zs++new.map (·.1)++[w]) ((kn,MObj.list (jc ks))::(sp,.list (new.map fun p:Z×List Nat=>MV.tup (jc p.2)))::(wy,.list ((new.map fun p:Z×List Nat=>MV.ref p.1.a)++[.ref w.a]))::R)):=H7
  have hsp7:st7 sp=some (.list (new.map fun p:Z×List Nat=>MV.tup (jc p.2))):=H7.get (W_R (by kst_mem))
  l_ints
  refine jI hsp6 hsp7 (by rw [List.length_map,hl3];unfold jb;w_up) fun st8 l8 h8=>⟨rfl,?_⟩
  have H8:=((jdc (R1:=[_]) H7 l8 h8).perm Qs).drop
  l_ints
  have e1:(new++[(w,row)]).map (·.1)=new.map (·.1)++[w]:=by simp
  refine hK' _ _ (fun _ q9=>q9 (new++[(w,row)]) (k5+many) c5 s7 (by simp [hl3]) hs7 ?_ ?_ (by w_up) ?_ ?_ ?_ _ _)
  ·rw [List.length_append,List.length_singleton];w_up
  ·rw [List.length_append,List.length_singleton];w_up
  ·rw [e1,← List.append_assoc,List.length_append,List.length_singleton,List.range'_concat,Nat.one_mul]
   rw [hnl] at hS5
   refine hS5.mono (fun i hi=>?_) fun i hi=>?_
   ·simp only [List.mem_cons,List.mem_append,List.mem_singleton,List.not_mem_nil,or_false] at hi ⊢
    rcases hi with hi | hi | hi
    ·exact Or.inl (Or.inr hi)
    ·exact Or.inl (Or.inl hi)
    ·exact Or.inr hi
   ·simp only [List.mem_cons,List.mem_append,List.mem_singleton,List.not_mem_nil,or_false] at hi ⊢
    rcases hi with hi | hi
    ·exact Or.inr hi
    ·exact Or.inl hi
  ·intro p hp
   rcases List.mem_append.mp hp with hp | hp
   ·exact hn3 p hp
   ·rw [List.mem_singleton.mp hp]
    exact ⟨hwf,hwp0,hwav,hrl,fun r hr=>List.mem_append.mp (hrm r hr)⟩
  ·rw [e1,← List.append_assoc,List.map_append,List.map_append]
   exact H8
 ·rintro ρ st3 I1
  apply I1;intro new k3 c3 s3 hl3 hs3 hk3 hc3 hc3' hS3 hn3 H3 x y
  have h2:(List.range (Int.toNat 2)).length=2:=rfl
  rw [h2] at hl3 hS3 hk3 hc3
  obtain ⟨⟨w1,r1⟩,⟨w2,r2⟩,rfl⟩:=jbM hl3
  simp only [List.map_cons,List.map_nil] at hS3 H3
  obtain ⟨hf1,hp1,ha1,hl1,hm1⟩:=hn3 (w1,r1) (by kst_mem)
  obtain ⟨hf2,hp2,ha2,hl2,hm2⟩:=hn3 (w2,r2) (by kst_mem)
  simp only at hf1 hp1 ha1 hl1 hm1 hf2 hp2 ha2 hl2 hm2
  have hnl:(zs++[w1,w2]).length=zs.length+2:=by simp
  have hh3:(zs++[w1,w2])[h]? = some z:=yl hh
  have hkn':Known en (zs++[w1,w2]) ks:=hkn.1.mono
  l_ints
  refine JL (many:=many) H3 hS3 hkn' (fun r hr=>Nat.lt_of_lt_of_le (hkn.2 r hr) hc3') (by w_up) hs3 hne (by w_up) hm (by w_up) (fun e=>by simp at e) fun j k4 c4 s4 st4 hji hjf hjp hja hs4 hS4 hk4 hc4 hjl H4=>?_
  have hsp4:st4 sp=some (.list [.tup (jc r1),.tup (jc r2)]):=H4.get (W_R (by kst_mem))
  have hwy4:st4 wy=some (.list [.ref w1.a,.ref w2.a]):=H4.get (W_R (by kst_mem))
  rw [hnl] at hS4 hji
  have e4:zs++[w1,w2]++[j]=zs++[w1,w2,j]:=by simp
  rw [e4] at hS4 H4
  have g1:(zs++[w1,w2,j])[zs.length]? = some w1:=ap0
  have g2:(zs++[w1,w2,j])[zs.length+1]? = some w2:=ap1
  have g3:(zs++[w1,w2,j])[zs.length+2]? = some j:=ap2
  have g0:(zs++[w1,w2,j])[h]? = some z:=yl hh
  have hjn:st4 j.a=some (.inst "LowBlock" j.d [("number",.int ((zs.length+2:Nat):Int)),("params",.ref j.p),("ops",.ref j.o),("end",j.endv)]):=jcy H4 g3 hji
  have hjk:∀ (v:Z),v.av=ks->∀ r∈j.av,r∉j.params->r∈v.av\/r∈v.wr:=fun v hv r hr hn=>by
   rw [hja] at hr
   rcases List.mem_append.mp hr with hr | hr
   ·exact Or.inl (by rw [hv];exact hr)
   ·exact absurd hr hn
  l_ints
  refine vG hwy4 (vG hsp4 ?_)
  refine xS (Qj hwy4 hsp4) (yO rfl ?_)
  l_ints
  refine zB (E:=.goto (zs.length+2) r1) H4 g1 fun st5 H5=>?_
  have S5:=xy (E:=.goto (zs.length+2) r1) hS4 g1 hf1 hm1 (show r1.length≤4 by w_up) (fun c hc=>by
   rw [List.mem_singleton.mp hc];exact ⟨j,g3,hjk w1 ha1⟩)
  have g2':((zs++[w1,w2,j]).set zs.length (w1.close (.goto (zs.length+2) r1)))[zs.length+1]? = some w2:=sne g2 (by w_up)
  have g3':((zs++[w1,w2,j]).set zs.length (w1.close (.goto (zs.length+2) r1)))[zs.length+2]? = some j:=sne g3 (by w_up)
  have g1':((zs++[w1,w2,j]).set zs.length (w1.close (.goto (zs.length+2) r1)))[zs.length]? = some (w1.close (.goto (zs.length+2) r1)):=List.getElem?_set_self (by rw [List.length_append];exact Nat.lt_add_of_pos_right (ble rfl))
  have g0':((zs++[w1,w2,j]).set zs.length (w1.close (.goto (zs.length+2) r1)))[h]? = some z:=sne g0 (by w_up)
  have hlen5:((zs++[w1,w2,j]).set zs.length (w1.close (.goto (zs.length+2) r1))).length=zs.length+3:=by simp
  generalize (zs++[w1,w2,j]).set zs.length (w1.close (.goto (zs.length+2) r1))=z5 at *
  have hsp5:st5 sp=some (.list [.tup (jc r1),.tup (jc r2)]):=H5.get (W_R (by kst_mem))
  have hwy5:st5 wy=some (.list [.ref w1.a,.ref w2.a]):=H5.get (W_R (by kst_mem))
  have hjn5:st5 j.a=some (.inst "LowBlock" j.d [("number",.int ((zs.length+2:Nat):Int)),("params",.ref j.p),("ops",.ref j.o),("end",j.endv)]):=jcy H5 g3' hji
  l_ints
  refine xS (Qj hwy5 hsp5) (yO rfl ?_)
  l_ints
  refine zB (E:=.goto (zs.length+2) r2) H5 g2' fun st6 H6=>?_
  have S6:=xy (E:=.goto (zs.length+2) r2) S5 g2' hf2 hm2 (show r2.length≤4 by w_up) (fun c hc=>by
   rw [List.mem_singleton.mp hc];exact ⟨j,g3',hjk w2 ha2⟩)
  have g3'':(z5.set (zs.length+1) (w2.close (.goto (zs.length+2) r2)))[zs.length+2]? = some j:=sne g3' (by w_up)
  have g2'':(z5.set (zs.length+1) (w2.close (.goto (zs.length+2) r2)))[zs.length+1]? = some (w2.close (.goto (zs.length+2) r2)):=List.getElem?_set_self (by w_up)
  have g1'':(z5.set (zs.length+1) (w2.close (.goto (zs.length+2) r2)))[zs.length]? = some (w1.close (.goto (zs.length+2) r1)):=sne g1' (by w_up)
  have g0'':(z5.set (zs.length+1) (w2.close (.goto (zs.length+2) r2)))[h]? = some z:=sne g0' (by w_up)
  have hlen6:(z5.set (zs.length+1) (w2.close (.goto (zs.length+2) r2))).length=zs.length+3:=by rw [List.length_set];exact hlen5
  generalize z5.set (zs.length+1) (w2.close (.goto (zs.length+2) r2))=z6 at *
  have hsp6:st6 sp=some (.list [.tup (jc r1),.tup (jc r2)]):=H6.get (W_R (by kst_mem))
  have hwy6:st6 wy=some (.list [.ref w1.a,.ref w2.a]):=H6.get (W_R (by kst_mem))
  have hkn6:st6 kn=some (.list (jc (j.av++j.wr))):=H6.get jdP
  l_ints
  refine OI (Qj hwy6 hsp6) ?_
  l_ints
  refine ⟨by decide,Or.inr ⟨_,_,rfl,hkn6,al fun it st7 l7 n7 hit=>?_⟩⟩
  have htk:(jc (j.av++j.wr)).take (Int.toNat 1)=jc ((j.av++j.wr).take 1):=by
   show ((j.av++j.wr).map _).take 1=_
   rw [← List.map_take]
  rw [htk] at hit
  have H7:=H6.add l7 n7 hit
  have htkl:0<((j.av++j.wr).take 1).length:=by
   rw [List.length_take,List.length_append,hja,List.length_append];w_up
  l_ints
  refine j7 (it:=it) H7 (by w_up) hs4 (W_F (by kst_mem)) htkl fun t s8 st8 ht hs8 H8=>?_
  have H8:=H.drop H8
  have htks:t∈ks:=by
   have e8:(j.av++j.wr).take 1=ks.take 1:=by
    rw [hja,List.append_assoc,List.take_append_of_le_length (by w_up)]
   rw [e8] at ht
   exact List.mem_of_mem_take ht
  have hwy8:st8 wy=some (.list [.ref w1.a,.ref w2.a]):=H8.get (W_R (by kst_mem))
  have hw1n:st8 w1.a=some (.inst "LowBlock" w1.d [("number",.int ((zs.length:Nat):Int)),("params",.ref w1.p),("ops",.ref w1.o),("end",(w1.close (.goto (zs.length+2) r1)).endv)]):=jcy H8 g1'' (S6.idx _ _ g1'')
  have hw2n:st8 w2.a=some (.inst "LowBlock" w2.d [("number",.int ((zs.length+1:Nat):Int)),("params",.ref w2.p),("ops",.ref w2.o),("end",(w2.close (.goto (zs.length+2) r2)).endv)]):=jcy H8 g2'' (S6.idx _ _ g2'')
  l_ints
  refine zl hwy8 rfl ?_
  l_ints
  refine V9 hwy8 rfl ?_
  l_ints
  refine zB (E:=.branch t zs.length (zs.length+1)) H8 g0'' fun st9 H9=>?_
  have hzk:∀ r∈ks,r∈z.av\/r∈z.wr:=fun r hr=>by rw [hks] at hr;exact List.mem_append.mp hr
  have S7:=xy S6 g0'' hf (E:=.branch t zs.length (zs.length+1)) (fun r hr=>by rw [List.mem_singleton.mp hr];exact hzk t htks) (show 1≤4 by decide) (fun c hc=>by
   rcases List.mem_cons.mp hc with rfl | hc
   ·exact ⟨_,g1'',fun r hr hn=>hzk r (by have hr:r∈w1.av:=hr;rw [ha1] at hr;exact hr)⟩
   ·rw [List.mem_singleton.mp hc]
    exact ⟨_,g2'',fun r hr hn=>hzk r (by have hr:r∈w2.av:=hr;rw [ha2] at hr;exact hr)⟩)
  have S8:=S7.mono (op':=[zs.length+2]) (pend':=[]) (fun i hi=>by
   have:=(List.mem_filter.mp hi)
   have h1:=(List.mem_filter.mp this.1)
   have h2':=(List.mem_filter.mp h1.1)
   have e1:i≠h:=by simpa using this.2
   have e2:i≠zs.length+1:=by simpa using h1.2
   have e3:i≠zs.length:=by simpa using h2'.2
   have:=h2'.1
   simp only [List.mem_cons,List.mem_append,List.mem_range'_1,List.not_mem_nil,or_false] at this ⊢
   exact mt1 e1 e2 e3 this) (fun i hi=>by
   exfalso
   have:=(List.mem_filter.mp hi)
   have h1:=(List.mem_filter.mp this.1)
   have h2':=(List.mem_filter.mp h1.1)
   have e1:¬(i∈[zs.length,zs.length+1]/\h<i):=of_decide_eq_false (Bool.not_eq_true' _ |>.mp this.2)
   have e2:¬(i∈[zs.length+2]/\zs.length+1<i):=of_decide_eq_false (Bool.not_eq_true' _ |>.mp h1.2)
   have e3:=h2'.1
   simp only [List.mem_cons,List.mem_range'_1,List.not_mem_nil,or_false] at e1 e2 e3
   exact mt2 (List.getElem?_eq_some_iff.mp hh).1 e1 e2 e3)
  have g3f:(z6.set h (z.close (.branch t zs.length (zs.length+1))))[zs.length+2]? = some j:=sne g3'' (by w_up)
  l_ints
  refine hK _ c4 s8 (j.av++j.wr) _ (zs.length+2) j st9 ⟨H.drop (H.drop H9),S8,g3f,hjf,rfl,hs8,?_,?_⟩ (by w_up) (by w_up) ?_
  ·rw [List.length_append,hja,List.length_append];w_up
  ·rw [List.length_append,hja,List.length_append,hjp];w_up
  ·rw [List.length_set,hlen6];w_up
theorem QH{A:Ad}{kn k cnt i:Nat}{s:Int}{ks en:List Nat}{zs:List Z}{R:HL}{op pend:List Nat}{z:Z}{st:St}(h:H st (W A kn k s cnt ks zs R))(hS:SI en cnt zs op pend)(hz:zs[i]? = some z) :
  st z.a=some (.inst "LowBlock" z.d [("number",.int (i:Nat)),("params",.ref z.p),("ops",.ref z.o),("end",z.endv)]):=by
 have:=h.get (uk (List.mem_of_getElem? hz))
 have hi:=hS.idx i z hz
 unfold Z.inst at this
 rw [hi] at this;exact this
theorem lo1{N h i:Nat}(q1:i≠N)(q2:i≠N+1)(q3:i≠h)(t:i=N\/i=h):i=N+2:=by w_up
theorem lo2{N i:Nat}(q:¬((i=N+1\/i=N+2)/\N<i))(e:i=N+1\/i=N+2):False:=by w_up
theorem X9{n kn h k cnt many:Nat}{A:Ad}{s:Int}{en ks:List Nat}{zs:List Z}{z:Z}{R:HL}{st:St}{K:MV->St->Prop}(b:BS A kn h en st R k cnt s ks zs z)(hk:k+100<1000000)(hc:cnt<800)(hz:zs.length<900)(hm:many≤2)
  (hK:∀ k' cnt' s' ks' zs' h' z' st',BS A kn h' en st' R k' cnt' s' ks' zs' z'->k'≤k+40->cnt'≤cnt+20->zs'.length≤zs.length+3->K (.ref z'.a) st'):Cl (n+5) "_law_loop" [.ref A.dk,.ref A.u,.ref z.a,.ref kn,.int many] st K:=by
 refine jr (fn:=fn_law_loop) (by decide) rfl rfl ?_
 unfold fn_law_loop
 one_place
 obtain ⟨hH,hS,hh,hf,hks,hs,hne,hkl⟩:=b
 have hkn:=hS.known hh
 rw [← hks] at hkn
 have hlt:h<zs.length:=(List.getElem?_eq_some_iff.mp hh).1
 have hzk:∀ r∈ks,r∈z.av\/r∈z.wr:=fun r hr=>by rw [hks] at hr;exact List.mem_append.mp hr
 l_ints
 refine yn (it:=kn) (is:=ks) hH (by w_up) (by w_up) hs X4 hne fun row s1 st1 hrl hrm hs1 H1=>?_
 l_ints
 have H1:H st1 (W A kn (k+many) s1 cnt ks zs R):=H1
 refine JL H1 hS hkn.1 hkn.2 (by w_up) hs1 hne (by w_up) hm (by w_up) (fun e=>by rw [e] at hlt;simp at hlt) fun hd k2 c2 s2 st2 hdi hdf hdp hda hs2 S2 hk2 hc2 hdl H2=>?_
 have g1:(zs++[hd])[zs.length]? = some hd:=ap0
 have g0:(zs++[hd])[h]? = some z:=yl hh
 have hdn:=QH H2 S2 g1
 have hkn2:st2 kn=some (.list (jc (hd.av++hd.wr))):=H2.get jdP
 have hk1l:(hd.av++hd.wr).length≤cnt+6:=by rw [List.length_append,hda,List.length_append,hdp];w_up
 l_ints
 refine ⟨by rw [je];unfold jb;w_up,al fun iw st3 l3 n3 hiw=>?_⟩
 have H3:=H2.add l3 n3 hiw
 l_ints
 refine Qy rfl ?_
 l_ints
 have hdk:∀ (v:Z),(∀ r∈ks,r∈v.av\/r∈v.wr)->∀ r∈hd.av,r∉hd.params->r∈v.av\/r∈v.wr:=fun v hv r hr hn=>by
  rw [hda] at hr
  rcases List.mem_append.mp hr with hr | hr
  ·exact hv r hr
  ·exact absurd hr hn
 refine zB (E:=.goto zs.length row) H3 g0 fun st4 H4=>?_
 have S4:=xy (E:=.goto zs.length row) S2 g0 hf (fun r hr=>hzk r (hrm r hr)) (show row.length≤4 by w_up) (fun c hc=>by
  rw [List.mem_singleton.mp hc];exact ⟨hd,g1,hdk z hzk⟩)
 have g1':((zs++[hd]).set h (z.close (.goto zs.length row)))[zs.length]? = some hd:=sne g1 (by w_up)
 have hlen4:((zs++[hd]).set h (z.close (.goto zs.length row))).length=zs.length+1:=by simp
 generalize (zs++[hd]).set h (z.close (.goto zs.length row))=z4 at *
 have kn4:=S4.known g1'
 have H4:=H4.perm Qs
 l_ints
 refine JL (many:=0) H4 S4 kn4.1 kn4.2 (by w_up) hs2 (by rw [List.length_append,hda,List.length_append];w_up) (by w_up) (by decide) (by w_up) (fun _=>rfl) fun bd k5 c5 s5 st5 bdi bdf bdp bda hs5 S5 hk5 hc5 bdl H5=>?_
 have bdp0:bd.params=[]:=List.length_eq_zero_iff.mp bdp
 have bdav:bd.av=hd.av++hd.wr:=by rw [bda,bdp0,List.append_nil]
 rw [hlen4] at S5
 have f1:(z4++[bd])[zs.length]? = some hd:=yl g1'
 have f2:(z4++[bd])[zs.length+1]? = some bd:=by rw [← hlen4];simp
 have hdn5:=QH H5 S5 f1
 l_ints
 refine yn (it:=iw) (is:=bd.av++bd.wr) H5 (by w_up) (by w_up) hs5 X4 (by rw [List.length_append,bdav,List.length_append,hda,List.length_append];w_up) fun row2 s6 st6 hrl2 hrm2 hs6 H6=>?_
 have H6:H st6 (W A iw (k5+many) s6 c5 (bd.av++bd.wr) (z4++[bd]) ((kn,MObj.list (jc (hd.av++hd.wr)))::R)):=H6
 l_ints
 refine zB (E:=.goto zs.length row2) H6 f2 fun st7 H7=>?_
 have S7:=xy (E:=.goto zs.length row2) S5 f2 bdf (fun r hr=>List.mem_append.mp (hrm2 r hr)) (show row2.length≤4 by w_up) (fun c hc=>by
  rw [List.mem_singleton.mp hc]
  exact ⟨hd,f1,hdk bd fun r hr=>Or.inl (by rw [bdav,hda];simp [hr])⟩)
 have f1':((z4++[bd]).set (zs.length+1) (bd.close (.goto zs.length row2)))[zs.length]? = some hd:=sne f1 (by w_up)
 have f2':((z4++[bd]).set (zs.length+1) (bd.close (.goto zs.length row2)))[zs.length+1]? = some (bd.close (.goto zs.length row2)):=List.getElem?_set_self (by rw [List.length_append,hlen4];exact Nat.lt_succ_self _)
 have hlen7:((z4++[bd]).set (zs.length+1) (bd.close (.goto zs.length row2))).length=zs.length+2:=by simp [hlen4]
 generalize (z4++[bd]).set (zs.length+1) (bd.close (.goto zs.length row2))=z7 at *
 have H7:=H.drop (H7.perm Qs)
 l_ints
 refine j7 (it:=kn) (is:=hd.av++hd.wr) H7 (by w_up) hs6 X4 (by rw [List.length_append,hda,List.length_append];w_up) fun t s8 st8 ht hs8 H8=>?_
 have H8:H st8 (W A kn (k5+many+1) s8 c5 (hd.av++hd.wr) z7 R):=H8
 have kn8:=S7.known f1'
 l_ints
 refine JL (many:=0) H8 S7 kn8.1 kn8.2 (by w_up) hs8 (by rw [List.length_append,hda,List.length_append];w_up) (by w_up) (by decide) (by w_up) (fun _=>rfl) fun rt k9 c9 s9 st9 rti rtf rtp rta hs9 S9 hk9 hc9 rtl H9=>?_
 have rtp0:rt.params=[]:=List.length_eq_zero_iff.mp rtp
 have rtav:rt.av=hd.av++hd.wr:=by rw [rta,rtp0,List.append_nil]
 rw [hlen7] at S9
 have e1:(z7++[rt])[zs.length]? = some hd:=yl f1'
 have e2:(z7++[rt])[zs.length+1]? = some (bd.close (.goto zs.length row2)):=yl f2'
 have e3:(z7++[rt])[zs.length+2]? = some rt:=by rw [← hlen7];simp
 have bdn:=QH H9 S9 e2
 have rtn:=QH H9 S9 e3
 have bdn:st9 bd.a=some (.inst "LowBlock" bd.d [("number",.int ((zs.length+1:Nat):Int)),("params",.ref bd.p),("ops",.ref bd.o),("end",(bd.close (.goto zs.length row2)).endv)]):=bdn
 l_ints
 refine zB (E:=.branch t (zs.length+1) (zs.length+2)) H9 e1 fun st10 H10=>?_
 have S10:=xy (E:=.branch t (zs.length+1) (zs.length+2)) S9 e1 hdf (fun r hr=>by rw [List.mem_singleton.mp hr];exact List.mem_append.mp ht) (show 1≤4 by decide) (fun c hc=>by
  rcases List.mem_cons.mp hc with rfl | hc
  ·exact ⟨_,e2,fun r hr hn=>by have hr:r∈bd.av:=hr;rw [bdav] at hr;exact List.mem_append.mp hr⟩
  ·rw [List.mem_singleton.mp hc]
   exact ⟨_,e3,fun r hr hn=>by rw [rtav] at hr;exact List.mem_append.mp hr⟩)
 have S11:=S10.mono (op':=[zs.length+2]) (pend':=[]) (fun i hi=>by
  have:=(List.mem_filter.mp hi)
  have q1:i≠zs.length:=by simpa using this.2
  rcases List.mem_cons.mp this.1 with h9 | h9
  ·rw [h9];simp
  ·have h8:=List.mem_filter.mp h9
   have q2:i≠zs.length+1:=by simpa using h8.2
   rcases List.mem_cons.mp h8.1 with h9 | h9
   ·exact absurd h9 q2
   ·have h7:=List.mem_filter.mp h9
    have q3:i≠h:=by simpa using h7.2
    have:=h7.1
    simp only [List.mem_cons,List.not_mem_nil,or_false] at this ⊢
    exact lo1 q1 q2 q3 this) (fun i hi=>by
  exfalso
  have:=(List.mem_filter.mp hi)
  have q1:¬(i∈[zs.length+1,zs.length+2]/\zs.length<i):=of_decide_eq_false (Bool.not_eq_true' _ |>.mp this.2)
  simp only [List.mem_cons,List.not_mem_nil,or_false] at q1
  rcases List.mem_cons.mp this.1 with h9 | h9
  ·exact lo2 q1 (.inr h9)
  ·have h8:=List.mem_filter.mp h9
   rcases List.mem_cons.mp h8.1 with h9 | h9
   ·exact lo2 q1 (.inl h9)
   ·have h7:=List.mem_filter.mp h9
    have q3:¬(i∈[zs.length]/\h<i):=of_decide_eq_false (Bool.not_eq_true' _ |>.mp h7.2)
    have:=h7.1
    simp only [List.mem_cons,List.not_mem_nil,or_false] at q3 this
    exact q3 ⟨this,by rw [this];exact hlt⟩)
 have e3f:((z7++[rt]).set zs.length (hd.close (.branch t (zs.length+1) (zs.length+2))))[zs.length+2]? = some rt:=sne e3 (by w_up)
 l_ints
 refine hK k9 c9 s9 (rt.av++rt.wr) _ (zs.length+2) rt st10 ⟨H10,S11,e3f,rtf,rfl,hs9,?_,?_⟩ (by w_up) (by w_up) ?_
 ·rw [List.length_append,rtav,List.length_append,hda,List.length_append];w_up
 ·rw [List.length_append,rtav,List.length_append,hda,List.length_append,hdp];w_up
 ·rw [List.length_set,List.length_append,hlen7];simp
theorem H.mv{st:St}{L₁ L₂:HL}{x:Nat×MObj}(h:H st (x::(L₁++L₂))):H st (L₁++x::L₂):=h.perm List.perm_middle.symm
theorem XX{n:Nat}{L:HL}{st:St}{K:MV->St->Prop}(h:H st L)(hk:∀ u d e bl st',H st' ((bl,.list [])::(e,.list [])::(u,uO d e bl 0)::L)->K (.ref u) st'):Cl (n+2) "LowUnit" [.int 0,.str "u",.bool false] st K:=by
 refine ZV (by decide) fun a d st1 l0 na h1=>?_
 refine jr (f:="LowUnit.__init__") (fn:=fn_LowUnit_init) (by decide) rfl rfl ?_
 unfold fn_LowUnit_init
 one_place
 have H1:=h.new l0 na h1
 l_ints
 refine sax h1 (by decide) fun st2 l2 h2=>?_
 have H2:=H.upd0 H1 l2 h2
 have h2:st2 a=some (.inst "LowUnit" d [("number",.int 0)]):=h2
 l_ints
 refine sax h2 (ble rfl) fun st3 l3 h3=>?_
 have H3:=H.upd0 H2 l3 h3
 have h3:st3 a=some (.inst "LowUnit" d [("number",.int 0),("title",.str "u")]):=h3
 l_ints
 refine sax h3 (ble rfl) fun st4 l4 h4=>?_
 have H4:=H.upd0 H3 l4 h4
 have h4:st4 a=some (.inst "LowUnit" d [("number",.int 0),("title",.str "u"),("is_continuation",.bool false)]):=h4
 l_ints
 intro e st5 l5 n5 h5
 have H5:=H4.new l5 n5 h5
 have h4:=l5 _ _ h4
 l_ints
 refine sax h4 (ble rfl) fun st6 l6 h6=>?_
 have H6:=H.upd (A:=[_]) H5 l6 h6
 have h6:st6 a=some (.inst "LowUnit" d [("number",.int 0),("title",.str "u"),("is_continuation",.bool false),("entry",.ref e)]):=h6
 l_ints
 refine sax h6 (ble rfl) fun st7 l7 h7=>?_
 have H7:=H.upd (A:=[_]) H6 l7 h7
 have h7:st7 a=some (.inst "LowUnit" d [("number",.int 0),("title",.str "u"),("is_continuation",.bool false),("entry",.ref e),("needed",.int 0)]):=h7
 l_ints
 refine sax h7 (ble rfl) fun st8 l8 h8=>?_
 have H8:=H.upd (A:=[_]) H7 l8 h8
 have h8:st8 a=some (.inst "LowUnit" d [("number",.int 0),("title",.str "u"),("is_continuation",.bool false),("entry",.ref e),("needed",.int 0),("has_rest",.bool false)]):=h8
 l_ints
 refine sax h8 (ble rfl) fun st9 l9 h9=>?_
 have H9:=H.upd (A:=[_]) H8 l9 h9
 have h9:st9 a=some (.inst "LowUnit" d [("number",.int 0),("title",.str "u"),("is_continuation",.bool false),("entry",.ref e),("needed",.int 0),("has_rest",.bool false),("free",.int 0)]):=h9
 l_ints
 refine sax h9 (ble rfl) fun st10 l10 h10=>?_
 have H10:=H.upd (A:=[_]) H9 l10 h10
 have h10:st10 a=some (.inst "LowUnit" d [("number",.int 0),("title",.str "u"),("is_continuation",.bool false),("entry",.ref e),("needed",.int 0),("has_rest",.bool false),("free",.int 0),("count",.int 0)]):=h10
 l_ints
 intro bl st11 l11 n11 h11
 have H11:=H10.new l11 n11 h11
 have h10:=l11 _ _ h10
 l_ints
 refine sax h10 (ble rfl) fun st12 l12 h12=>?_
 have H12:=H.upd (A:=[_,_]) H11 l12 h12
 l_ints
 exact ⟨rfl,hk a d e bl st12 H12⟩
noncomputable def zBk(z:Z):Bk:=⟨z.params,z.ops,z.fin.getD (.give 0 [])⟩
noncomputable def zUn(en:List Nat)(cnt:Nat)(zs:List Z):Un:=⟨en,cnt,zs.map zBk⟩
noncomputable def Bk.wr(B:Bk):List Nat:=B.ops.flatMap Op.writes
structure JO(U:Un)(av:Nat->List Nat):Prop where
 uf:∀ (i:Nat) (B:Bk) (r:Nat),U.blocks[i]? = some B->UF r B.ops->r∈av i
 rd:∀ (i:Nat) (B:Bk),U.blocks[i]? = some B->∀ r∈B.fin.reads,r∈av i\/r∈B.wr
 edge:∀ (i c:Nat) (B:Bk),U.blocks[i]? = some B->c∈B.fin.next->∀ r∈av c,r∉U.par c->r∈av i\/r∈B.wr
 old:∀ (i:Nat) (B:Bk) (r:Nat),U.blocks[i]? = some B->r∈av i->r∈U.entry\/r∈B.params\/∃ (j:Nat) (B':Bk),j<i/\U.blocks[j]? = some B'/\r∈B'.params++B'.wr
 par0:U.par 0=[]
 pred:∀ c,0<c->c<U.blocks.length->∃ (i:Nat) (B:Bk),i<c/\U.blocks[i]? = some B/\c∈B.fin.next
theorem qo{en:List Nat}{cnt i:Nat}{zs:List Z}{B:Bk}(h:(zUn en cnt zs).blocks[i]? = some B):∃ z,zs[i]? = some z/\B=zBk z:=by
 unfold zUn at h
 rw [List.getElem?_map] at h
 obtain ⟨z,hz,e⟩:=Option.map_eq_some_iff.mp h
 exact ⟨z,hz,e.symm⟩
theorem g8{en:List Nat}{cnt i:Nat}{zs:List Z}{z:Z}(h:zs[i]? = some z):(zUn en cnt zs).blocks[i]? = some (zBk z):=by
 unfold zUn;rw [List.getElem?_map,h];rfl
theorem Ur{en:List Nat}{cnt:Nat}{zs:List Z}(h:SI en cnt zs [] []):JO (zUn en cnt zs) (fun i=>(zs[i]?.map Z.av).getD []):=by
 have hav:∀ {i:Nat}{z:Z},zs[i]? = some z->(zs[i]?.map Z.av).getD []=z.av:=fun hz=>by rw [hz];rfl
 have hfin:∀ {i:Nat}{z:Z},zs[i]? = some z->∃ E,z.fin=some E:=fun {i z} hz=>by
  cases hf:z.fin with
  |none=>have:=h.opn i z hz hf;simp at this
  |some E=>exact ⟨E,rfl⟩
 have hpar:∀ {i:Nat}{z:Z},zs[i]? = some z->(zUn en cnt zs).par i=z.params:=fun {i z} hz=>by unfold Un.par;rw [g8 hz];rfl
 refine ⟨fun i B r hB hu=>?_,fun i B hB r hr=>?_,fun i c B hB hc r hr hn=>?_,fun i B r hB hr=>?_,?_,fun c hc hl=>?_⟩
 ·obtain ⟨z,hz,rfl⟩:=qo hB
  show r∈(zs[i]?.map Z.av).getD []
  rw [hav hz];exact h.uf z (List.mem_of_getElem? hz) r hu
 ·obtain ⟨z,hz,rfl⟩:=qo hB
  obtain ⟨E,hE⟩:=hfin hz
  show r∈(zs[i]?.map Z.av).getD []\/_
  rw [hav hz]
  have hfe:(zBk z).fin=E:=by unfold zBk;rw [hE];rfl
  rw [hfe] at hr
  exact (h.closed i z E hz hE).1 r hr
 ·obtain ⟨z,hz,rfl⟩:=qo hB
  obtain ⟨E,hE⟩:=hfin hz
  have hfe:(zBk z).fin=E:=by unfold zBk;rw [hE];rfl
  rw [hfe] at hc
  obtain ⟨zc,h1,h2⟩:=(h.closed i z E hz hE).2.2 c hc
  show r∈(zs[i]?.map Z.av).getD []\/_
  have hr:r∈(zs[c]?.map Z.av).getD []:=hr
  rw [hav h1] at hr
  rw [hpar h1] at hn
  rw [hav hz]
  exact h2 r hr hn
 ·obtain ⟨z,hz,rfl⟩:=qo hB
  have hr:r∈(zs[i]?.map Z.av).getD []:=hr
  rw [hav hz] at hr
  rcases h.old i z r hz hr with h1 | h1 | ⟨j,z',h1,h2,h3⟩
  ·exact Or.inl h1
  ·exact Or.inr (Or.inl h1)
  ·exact Or.inr (Or.inr ⟨j,zBk z',h1,g8 h2,h3⟩)
 ·cases hz:zs[0]? with
  |none=>unfold Un.par zUn;rw [List.getElem?_map,hz];rfl
  |some z=>rw [hpar hz];exact h.p0 z hz
 ·have hl:c<zs.length:=by unfold zUn at hl;rw [List.length_map] at hl;exact hl
  rcases h.pred c hc hl with h1 | ⟨i,z,E,h1,h2,h3,h4⟩
  ·simp at h1
  ·exact ⟨i,zBk z,h1,g8 h2,by unfold zBk;rw [h3];exact h4⟩
theorem jfJ{en:List Nat}{cnt:Nat}{zs:List Z}(h:SI en cnt zs [] [])(hc:cnt<1000)(hz:zs.length<100)(hp:0<zs.length)(he:en.length<1000):jy (zUn en cnt zs):=by
 have hd:=Qb h.ord
 have hord:gvs (zUn en cnt zs)=List.range cnt:=by
  rw [← h.ord]
  unfold gvs zUn
  simp only
  rw [List.flatMap_map];rfl
 have hfin:∀ {i:Nat}{z:Z},zs[i]? = some z->∃ E,z.fin=some E:=fun {i z} hz=>by
  cases hf:z.fin with
  |none=>have:=h.opn i z hz hf;simp at this
  |some E=>exact ⟨E,rfl⟩
 refine ⟨hord,hc,by unfold zUn;rw [List.length_map];exact hz,by unfold zUn;rw [List.length_map];exact hp,hd.1,he,?_,fun B hB=>?_⟩
 ·have:=congrArg List.length h.ord
  rw [List.length_append,List.length_range] at this
  show en.length≤cnt
  w_up
 ·obtain ⟨i,hi⟩:=List.mem_iff_getElem?.mp hB
  obtain ⟨z,hz',rfl⟩:=qo hi
  have hm:=List.mem_of_getElem? hz'
  obtain ⟨E,hE⟩:=hfin hz'
  have hfe:(zBk z).fin=E:=by unfold zBk;rw [hE];rfl
  obtain ⟨c1,c2,c3⟩:=h.closed i z E hz' hE
  obtain ⟨s1,s2,s3⟩:=h.small z hm
  refine ⟨fun r hr=>hd.2 z hm r (List.mem_append_left _ hr),show z.params.length<1000 by w_up,fun o ho=>⟨h.rd z hm o ho,fun r hr=>hd.2 z hm r (List.mem_append_right _ (List.mem_flatMap.mpr ⟨o,ho,hr⟩)),?_,?_⟩,show z.ops.length<1000 by w_up,fun r hr=>?_,?_,fun c hc'=>?_⟩
  ·have:=(s3 o ho).1;w_up
  ·have:=(s3 o ho).2;w_up
  ·rw [hfe] at hr
   rcases c1 r hr with h1 | h1
   ·exact h.av_lt hm r h1
   ·exact hd.2 z hm r (List.mem_append_right _ h1)
  ·rw [hfe];w_up
  ·rw [hfe] at hc'
   obtain ⟨zc,h1,_⟩:=c3 c hc'
   show c<(zs.map zBk).length
   rw [List.length_map];exact (List.getElem?_eq_some_iff.mp h1).1
theorem uS{α β:Type}{R:β->β->Prop}{f:α->List β}{xs:List α}{i j:Nat}{x y:α}{a b:β}(h:(xs.flatMap f).Pairwise R)(hi:xs[i]? = some x)(hj:xs[j]? = some y)(hij:i<j)(ha:a∈f x)(hb:b∈f y):R a b:=by
 obtain ⟨hl,he⟩:=List.getElem?_eq_some_iff.mp hi
 have e1:xs=xs.take (i+1)++xs.drop (i+1):=(List.take_append_drop ..).symm
 rw [e1,List.flatMap_append,List.pairwise_append] at h
 refine h.2.2 a (List.mem_flatMap.mpr ⟨x,?_,ha⟩) b (List.mem_flatMap.mpr ⟨y,?_,hb⟩)
 ·rw [List.mem_iff_getElem?]
  exact ⟨i,by rw [List.getElem?_take];simp [hi]⟩
 ·rw [List.mem_iff_getElem?]
  exact ⟨j - (i+1),by rw [List.getElem?_drop,Nat.add_sub_of_le (show i+1≤j from by w_up)];exact hj⟩
theorem uc{α β:Type}{R:β->β->Prop}{f:α->List β}{xs:List α}{x:α}(h:(xs.flatMap f).Pairwise R)(hx:x∈xs):(f x).Pairwise R:=by
 obtain ⟨pre,post,rfl⟩:=List.append_of_mem hx
 rw [List.flatMap_append,List.flatMap_cons,List.pairwise_append,List.pairwise_append] at h
 exact h.2.1.1
noncomputable def Bk.defs(B:Bk):List Nat:=B.params++B.wr
section
variable {U:Un}{av:Nat->List Nat}
theorem YW(ho:jy U):(U.entry++U.blocks.flatMap Bk.defs).Pairwise (· < ·):=by
 have:U.entry++U.blocks.flatMap Bk.defs=List.range U.count:=ho.ord
 rw [this];exact List.pairwise_lt_range
theorem jeB(ho:jy U){i x y:Nat}{B:Bk}(hB:U.blocks[i]? = some B)(hx:x∈U.entry)(hy:y∈B.defs):x<y:=by
 have h:=YW ho
 rw [List.pairwise_append] at h
 exact h.2.2 x hx y (List.mem_flatMap.mpr ⟨B,List.mem_of_getElem? hB,hy⟩)
theorem Oo(ho:jy U){i j x y:Nat}{B B':Bk}(hB:U.blocks[i]? = some B)(hB':U.blocks[j]? = some B')(hij:i<j)(hx:x∈B.defs)(hy:y∈B'.defs):x<y:=by
 have h:=YW ho
 rw [List.pairwise_append] at h
 exact uS h.2.1 hB hB' hij hx hy
theorem jeE(ho:jy U){i x y:Nat}{B:Bk}(hB:U.blocks[i]? = some B)(hx:x∈B.params)(hy:y∈B.wr):x<y:=by
 have h:=YW ho
 rw [List.pairwise_append] at h
 have h2:=uc h.2.1 (List.mem_of_getElem? hB)
 unfold Bk.defs at h2
 rw [List.pairwise_append] at h2
 exact h2.2.2 x hx y hy
theorem jdg(ho:jy U){i j k x y:Nat}{B:Bk}{o o':Op}(hB:U.blocks[i]? = some B)(h1:B.ops[j]? = some o)(h2:B.ops[k]? = some o')(hjk:j<k)(hx:x∈o.writes)(hy:y∈o'.writes):x<y:=by
 have h:=YW ho
 rw [List.pairwise_append] at h
 have h3:=uc h.2.1 (List.mem_of_getElem? hB)
 unfold Bk.defs at h3
 rw [List.pairwise_append] at h3
 exact uS h3.2.1 h1 h2 hjk hx hy
theorem vL(ho:jy U){x y:Nat}(h:x<y)(hy:y∈U.entry):x∈U.entry:=by
 rw [xc ho] at hy ⊢
 have:=List.mem_range.mp hy
 exact List.mem_range.mpr (by w_up)
theorem Od(ho:jy U)(hs:JO U av){i x y:Nat}{B:Bk}(hB:U.blocks[i]? = some B)(hy:y∈av i)(hx:x∈B.wr):y<x:=by
 rcases hs.old i B y hB hy with h | h | ⟨j,B',hj,hB',h⟩
 ·exact jeB ho hB h (List.mem_append_right _ hx)
 ·exact jeE ho hB h hx
 ·exact Oo ho hB' hB hj h (List.mem_append_right _ hx)
theorem OZ{r:Nat}:∀ {a b:List Op},UF r (a++b)↔UF r a\/(Unw r a/\UF r b)
 |[],b=>by simp [UF,Unw]
 |o::a,b=>by
  have e1:∀ l,UF r (o::l)=(r∈o.reads\/(r∉o.writes/\UF r l)):=fun _=>rfl
  have e2:Unw r (o::a)↔r∉o.writes/\Unw r a:=by unfold Unw;exact List.forall_mem_cons
  rw [List.cons_append,e1,e1,OZ,e2]
  constructor
  ·rintro (h | ⟨h1,h | ⟨h2,h3⟩⟩)
   ·exact Or.inl (Or.inl h)
   ·exact Or.inl (Or.inr ⟨h1,h⟩)
   ·exact Or.inr ⟨⟨h1,h2⟩,h3⟩
  ·rintro ((h | ⟨h1,h⟩) | ⟨⟨h1,h2⟩,h3⟩)
   ·exact Or.inl h
   ·exact Or.inr ⟨h1,Or.inl h⟩
   ·exact Or.inr ⟨h1,Or.inr ⟨h2,h3⟩⟩
theorem jbr{r:Nat}{a b:List Op}:Unw r (a++b)↔Unw r a/\Unw r b:=by unfold Unw;exact List.forall_mem_append
theorem xN{r i j k:Nat}{B:Bk}(hB:U.blocks[i]? = some B)(h:jQ U r i k)(hjk:j≤k)(hw:Unw r ((B.ops.drop j).take (k - j))):jQ U r i j:=by
 obtain ⟨B',hB',h⟩:=h
 rw [hB] at hB';cases hB'
 have e:B.ops.drop j=(B.ops.drop j).take (k - j)++B.ops.drop k:=by
  have:=(List.take_append_drop (k - j) (B.ops.drop j)).symm
  rw [List.drop_drop,show j+(k - j)=k from Nat.add_sub_of_le (by w_up)] at this
  exact this
 refine ⟨B,hB,?_⟩
 rw [e,OZ,jbr]
 rcases h with h | ⟨h1,h2⟩
 ·exact Or.inl (Or.inr ⟨hw,h⟩)
 ·exact Or.inr ⟨⟨hw,h1⟩,h2⟩
theorem Xy(hs:JO U av){r i:Nat}(h:Jv U r i):r∈av i:=by
 have nw:∀ {B:Bk},Unw r B.ops->r∉B.wr:=fun {B} hu hm=>by
  obtain ⟨o,ho,hr⟩:=List.mem_flatMap.mp hm
  exact hu o ho hr
 induction h with
 |use hB k=>exact hs.uf _ _ r hB k
 |fin hB a k=>exact (hs.rd _ _ hB r k).resolve_right (nw a)
 |edge hB a b d _ ih=>exact (hs.edge _ _ _ hB b r ih d).resolve_right (nw a)
set_option tactic.hygienic true in
theorem jbZ(hs:JO U av){r i k:Nat}{B:Bk}(hB:U.blocks[i]? = some B)(h:jQ U r i k):r∈av i\/∃ j o,j<k/\B.ops[j]? = some o/\r∈o.writes:=by
 by_cases hw:Unw r ((B.ops.drop 0).take (k - 0))
 ·exact Or.inl (Xy hs (liveAt_zero.mp (xN hB h (Nat.zero_le _) hw)))
 ·have:∃ o∈(B.ops.drop 0).take (k - 0),r∈o.writes:=Classical.byContradiction fun hn=>hw fun o ho hr=>hn ⟨o,ho,hr⟩
  obtain ⟨o,ho,hr⟩:=this
  obtain ⟨j,hj⟩:=List.mem_iff_getElem?.mp ho
  rw [List.drop_zero,Nat.sub_zero,List.getElem?_take] at hj
  split at hj
  ·rename_i hlt;exact Or.inr ⟨j,o,hlt,hj,hr⟩
  ·cases hj
theorem jcp{x j k:Nat}{B:Bk}(h:∀ j' o',j<j'->B.ops[j']? = some o'->x∉o'.writes):Unw x ((B.ops.drop (j+1)).take (k - (j+1))):=by
 intro o' ho' hx
 have ho2:=List.mem_of_mem_take ho'
 obtain ⟨m,hm⟩:=List.mem_iff_getElem?.mp ho2
 rw [List.getElem?_drop] at hm
 exact h _ o' (by w_up) hm hx
def Qz(U:Un)(x y:Nat):Prop:=∃ t∈xa U,y∈t.given/\(x∈t.given\/jQ U x t.i t.k)
theorem QG:(⟨0,-1,U.entry,0,0,none⟩:Rt)∈xa U:=List.mem_cons_self ..
theorem Om{i:Nat}{B:Bk}(hB:U.blocks[i]? = some B):(⟨i,-1,B.params,i,0,none⟩:Rt)∈xa U :=
 List.mem_cons_of_mem _ (List.mem_flatMap.mpr ⟨(B,i),List.mk_mem_zipIdx_iff_getElem?.mpr hB,List.mem_cons_self ..⟩)
theorem jdd{i k:Nat}{B:Bk}{o:Op}(hB:U.blocks[i]? = some B)(ho:B.ops[k]? = some o):U3 i (o,k)∈xa U :=
 List.mem_cons_of_mem _ (List.mem_flatMap.mpr ⟨(B,i),List.mk_mem_zipIdx_iff_getElem?.mpr hB,List.mem_cons_of_mem _ (List.mem_map.mpr ⟨(o,k),List.mk_mem_zipIdx_iff_getElem?.mpr ho,rfl⟩)⟩)
theorem qe(ho:jy U){i j k x y:Nat}{B:Bk}{o:Op}(hB:U.blocks[i]? = some B)(hxy:x<y)(hj:B.ops[j]? = some o)(hy:y∈o.writes)(hjk:j<k)(hl:jQ U x i k):Qz U x y:=by
 refine ⟨U3 i (o,j),jdd hB hj,hy,Or.inr (xN hB hl hjk (jcp fun j' o' h1 h2 hx=>?_))⟩
 have:=jdg ho hB hj h2 h1 hy hx
 w_up
theorem XE(ho:jy U)(hs:JO U av){x y:Nat}(hxy:x<y):∀ (i:Nat) (B:Bk),U.blocks[i]? = some B->y∈av i->(x∈B.params\/jQ U x i 0)->Qz U x y:=by
 intro i
 induction i using Nat.strongRecOn with
 |ind i ih =>
  intro B hB hy hx
  by_cases hyp:y∈B.params
  ·exact ⟨_,Om hB,hyp,hx⟩
  rcases hs.old i B y hB hy with h | h | ⟨j,B',hj,hB',h⟩
  ·exact ⟨_,QG,h,Or.inl (vL ho hxy h)⟩
  ·exact absurd h hyp
  ·have hxn:x∉B.params:=fun hm=>by
    have:=Oo ho hB' hB hj h (List.mem_append_left _ hm);w_up
   have hlx:Jv U x i:=liveAt_zero.mp (hx.resolve_left hxn)
   have hpar:U.par i=B.params:=by unfold Un.par;rw [hB];rfl
   obtain ⟨b,Bb,hbi,hBb,hn⟩:=hs.pred i (by w_up) (List.getElem?_eq_some_iff.mp hB).1
   have hend:jQ U x b Bb.ops.length:=⟨Bb,hBb,Or.inr ⟨by rw [List.drop_length];intro o ho;simp at ho,Or.inr ⟨i,hn,by rw [hpar];exact hxn,hlx⟩⟩⟩
   have hyb:=hs.edge b i Bb hBb hn y hy (by rw [hpar];exact hyp)
   by_cases hw:y∈Bb.wr
   ·obtain ⟨o,hom,hyo⟩:=List.mem_flatMap.mp hw
    obtain ⟨q,hq⟩:=List.mem_iff_getElem?.mp hom
    exact qe ho hBb hxy hq hyo (List.getElem?_eq_some_iff.mp hq).1 hend
   ·have hyb:=hyb.resolve_right hw
    refine ih b hbi Bb hBb hyb (Or.inr (xN hBb hend (Nat.zero_le _) fun o' ho' hxo=>?_))
    have:x∈Bb.wr:=List.mem_flatMap.mpr ⟨o',List.mem_of_mem_drop (List.mem_of_mem_take ho'),hxo⟩
    have:=Od ho hs hBb hyb this
    w_up
theorem gE(ho:jy U)(hs:JO U av){x y:Nat}(hxy:x<y){t:Rt}(ht:t∈xa U)(hx:x∈t.given\/jQ U x t.i t.k)(hy:y∈t.given\/jQ U y t.i t.k):Qz U x y:=by
 rcases hy with hy | hy
 ·exact ⟨t,ht,hy,hx⟩
 unfold xa at ht
 rcases List.mem_cons.mp ht with rfl | ht
 ·have hav:y∈av 0:=Xy hs (liveAt_zero.mp hy)
  obtain ⟨B,hB,_⟩:=hy
  have hB:U.blocks[0]? = some B:=hB
  have hpar:U.par 0=B.params:=by unfold Un.par;rw [hB];rfl
  rcases hs.old 0 B y hB hav with h | h | ⟨j,_,hj,_⟩
  ·exact ⟨_,QG,h,Or.inl (vL ho hxy h)⟩
  ·rw [← hpar,hs.par0] at h;simp at h
  ·w_up
 ·obtain ⟨⟨B,i⟩,hq,ht⟩:=List.mem_flatMap.mp ht
  have hB:U.blocks[i]? = some B:=List.mk_mem_zipIdx_iff_getElem?.mp hq
  unfold xn at ht
  rcases List.mem_cons.mp ht with rfl | ht
  ·exact XE ho hs hxy i B hB (Xy hs (liveAt_zero.mp hy)) hx
  ·obtain ⟨⟨o,k⟩,hp,rfl⟩:=List.mem_map.mp ht
   have hok:B.ops[k]? = some o:=List.mk_mem_zipIdx_iff_getElem?.mp hp
   have hy:jQ U y i (k+1):=hy
   rcases jbZ hs hB hy with hya | ⟨j,o',hj,hj1,hj2⟩
   ·rcases hx with hx | hx
    ·have hx:x∈o.writes:=hx
     have:=Od ho hs hB hya (List.mem_flatMap.mpr ⟨o,List.mem_of_getElem? hok,hx⟩)
     w_up
    ·have hx:jQ U x i (k+1):=hx
     refine XE ho hs hxy i B hB hya (Or.inr (xN hB hx (Nat.zero_le _) fun o' ho' hxo=>?_))
     have:x∈B.wr:=List.mem_flatMap.mpr ⟨o',List.mem_of_mem_drop (List.mem_of_mem_take ho'),hxo⟩
     have:=Od ho hs hB hya this
     w_up
   ·rcases hx with hx | hx
    ·have hx:x∈o.writes:=hx
     by_cases hjk:j=k
     ·subst hjk
      rw [hok] at hj1;cases hj1
      exact ⟨_,jdd hB hok,hj2,Or.inl hx⟩
     ·have:=jdg ho hB hj1 hok (by w_up) hj2 hx
      w_up
    ·exact qe ho hB hxy hj1 hj2 hj hx
theorem og{beg:List Nat}(ho:jy U)(hb:yg U beg){x y:Nat}(hx:x<U.count)(hne:x≠y)(h:Qz U x y):jx U.count (tms U beg) x y=true:=by
 obtain ⟨t,ht,hy,hx'⟩:=h
 rw [J8]
 refine ⟨t.tm U beg,by rw [Qg];exact List.mem_map_of_mem ht,y,hy,x,?_,hne.symm,Or.inr ⟨rfl,rfl⟩⟩
 unfold Jk jn
 exact List.mem_append_left _ (List.mem_filter.mpr ⟨List.mem_range.mpr hx,(ZS ho hb ht).mpr hx'⟩)
theorem V0{beg:List Nat}(ho:jy U)(hs:JO U av)(hb:yg U beg){x y:Nat}(hxy:x<y){t:Tm}(ht:t∈tms U beg)(hx:x∈jn U.count t.all)(hy:y∈jn U.count t.all):jx U.count (tms U beg) x y=true:=by
 rw [Qg] at ht
 obtain ⟨rt,hrt,rfl⟩:=List.mem_map.mp ht
 unfold jn at hx hy
 have hx':=(ZS ho hb hrt).mp (List.mem_filter.mp hx).2
 have hy':=(ZS ho hb hrt).mp (List.mem_filter.mp hy).2
 exact og ho hb (List.mem_range.mp (List.mem_filter.mp hx).1) (by w_up) (gE ho hs hxy hrt hx' hy')
end
theorem GB{m:Nat}:∀ x,lkN ((List.range m).zipIdx.foldl (fun d p=>j5 d p.1 p.2) ([]:PD)) x=if x<m then some x else none:=by
 induction m with
 |zero=>intro x;rfl
 |succ m ih =>
  intro x
  rw [List.range_succ,xo,List.foldl_append,List.foldl_cons,List.foldl_nil,JE,ih,List.length_range,Nat.zero_add]
  by_cases e:m=x
  ·subst e;rw [if_pos rfl,if_pos (by w_up)]
  ·rw [if_neg e]
   by_cases h:x<m
   ·rw [if_pos h,if_pos (by w_up)]
   ·rw [if_neg h,if_neg (by w_up)]
theorem zr{U:Un}(ho:jy U)(x:Nat):lkN (jR U) x=if x<U.entry.length then some x else none:=by
 unfold jR
 rw [xc ho,List.length_range]
 exact GB x
theorem xQ{U:Un}(ho:jy U){x:Nat}:x∈U.entry↔x<U.entry.length:=by
 have h:x∈U.entry↔x∈List.range U.entry.length:=by rw [← xc ho]
 rw [h,List.mem_range]
theorem QD{U:Un}{ms:List Nat}{d:PD}{r x:Nat}:lkN (jk U ms d r) x=if (lkN d r).isSome then lkN d x else if r=x then some (Jr U.count ms d (jU U) r) else lkN d x:=by
 unfold jk
 cases h:lkN d r with
 |some p=>simp
 |none=>simp [JE]
set_option tactic.hygienic true in
theorem UZ{U:Un}{ms:List Nat}{d:PD}{r x p:Nat}(h:lkN d x=some p):lkN (jk U ms d r) x=some p:=by
 rw [QD]
 split
 ·exact h
 ·split
  ·rename_i h1 h2
   subst h2;rw [h] at h1;simp at h1
  ·exact h
theorem zq{U:Un}{ms:List Nat}{x p:Nat}:∀ {rs:List Nat}{d:PD},lkN d x=some p->lkN (rs.foldl (jk U ms) d) x=some p
 |[],d,h=>h
 |r::rs,d,h=>zq (rs:=rs) (UZ h)
set_option tactic.hygienic true in
theorem UR{U:Un}{ms:List Nat}{d:PD}{r x:Nat}:(lkN (jk U ms d r) x).isSome↔(lkN d x).isSome\/x=r:=by
 rw [QD]
 split
 ·rename_i h
  constructor
  ·exact Or.inl
  ·rintro (h' | rfl)
   ·exact h'
   ·exact h
 ·split
  ·rename_i h1 h2;simp [h2]
  ·rename_i h1 h2
   constructor
   ·exact Or.inl
   ·rintro (h' | rfl)
    ·exact h'
    ·exact absurd rfl h2
theorem XV{U:Un}{ms:List Nat}{x:Nat}:∀ {rs:List Nat}{d:PD},(lkN (rs.foldl (jk U ms) d) x).isSome↔(lkN d x).isSome\/x∈rs
 |[],d=>by simp
 |r::rs,d=>by
  rw [List.foldl_cons,XV,UR]
  simp only [List.mem_cons]
  exact or_assoc
noncomputable def dAt(U:Un)(ms:List Nat)(pre:List Nat):PD:=pre.foldl (jk U ms) (jR U)
theorem vc{U:Un}{ms:List Nat}:∀ {rs:List Nat}{d:PD},(∀ r∈rs,(lkN d r).isSome)->rs.foldl (jk U ms) d=d
 |[],d,_=>rfl
 |r::rs,d,h=>by
  have h1:jk U ms d r=d:=by
   unfold jk
   obtain ⟨p,hp⟩:=Option.isSome_iff_exists.mp (h r (List.mem_cons_self ..))
   rw [hp]
  rw [List.foldl_cons,h1,vc fun x hx=>h x (List.mem_cons_of_mem _ hx)]
theorem Jm{U:Un}(ho:jy U):U.entry++yB U=List.range U.count:=ho.ord
theorem JQ{U:Un}(ho:jy U)(ms:List Nat):jd U ms=dAt U ms (yB U):=by
 have he:U.entry.foldl (jk U ms) (jR U)=jR U:=vc fun r hr=>by rw [zr ho,if_pos ((xQ ho).mp hr)];rfl
 unfold jd dAt
 rw [qg ho,← Jm ho,List.foldl_append,he]
theorem Yx{U:Un}(ho:jy U){ms pre:List Nat}{x:Nat}:(lkN (dAt U ms pre) x).isSome↔x∈U.entry++pre:=by
 unfold dAt
 rw [XV,zr ho,List.mem_append,xQ ho]
 by_cases h:x<U.entry.length<;>simp [h]
theorem ug{U:Un}{ms pre post:List Nat}{x p:Nat}(h:lkN (dAt U ms pre) x=some p):lkN (dAt U ms (pre++post)) x=some p:=by
 unfold dAt at h ⊢
 rw [List.foldl_append]
 exact zq h
theorem YF{U:Un}(ho:jy U){ms:List Nat}:Total U.count (jd U ms):=by
 refine ⟨fun r hr=>?_,fun k p hp=>?_⟩
 ·rw [JQ ho]
  exact Option.isSome_iff_exists.mp ((Yx ho).mpr (by rw [Jm ho];exact List.mem_range.mpr hr))
 ·have:=Jg (U:=U) (ms:=ms) (rs:=zn U) (d:=jR U) (YU gW (by rw [Nat.zero_add];exact ho.entc)) k p hp
  have:=ho.cnt;w_up
set_option tactic.hygienic true in
theorem Q4{N r:Nat}{ms:List Nat}{d:PD}{ws:List (List Nat)}:(jV N ms d r).testBit (Jr N ms d ws r)=false:=by
 unfold Jr
 cases z:((ws[r]?).getD []).findSome? fun o=>match lkN d o with | some p=>if (jV N ms d r).testBit p then none else some p | none=>none with
 |some p =>
  obtain ⟨o,_,ho⟩:=List.exists_of_findSome?_eq_some z
  cases y:lkN d o with
  |none=>rw [y] at ho;cases ho
  |some q =>
   rw [y] at ho
   simp only at ho
   split at ho
   ·cases ho
   ·rename_i h;cases ho;simpa using h
 |none =>
  obtain ⟨p,hp,hf⟩:=Xj (N:=N) (r:=r) (ms:=ms) (d:=d)
  show (jV N ms d r).testBit (Jh N (jV N ms d r))=false
  unfold Jh
  cases y:(List.range (N+1)).find? fun i=>!(jV N ms d r).testBit i with
  |none =>
   have:=List.find?_eq_none.mp y p (List.mem_range.mpr (by w_up))
   rw [hf] at this;simp at this
  |some q =>
   have:=List.find?_some y
   simpa using this
section
variable {U:Un}{av:Nat->List Nat}{beg:List Nat}
theorem QL{ms pre post:List Nat}{one:Nat}(ho:jy U)(e:yB U=pre++one::post):pl (jd U ms) one=Jr U.count ms (dAt U ms pre) (jU U) one/\(∀ x,x∈U.entry++pre->lkN (dAt U ms pre) x=some (pl (jd U ms) x))/\one∉U.entry++pre:=by
 have hnd:(U.entry++(pre++one::post)).Nodup:=by rw [← e,Jm ho];exact List.nodup_range
 have hn:one∉U.entry++pre:=fun hm=>by
  rw [← List.append_assoc,List.nodup_append] at hnd
  exact hnd.2.2 one hm one (List.mem_cons_self ..) rfl
 have hnone:(lkN (dAt U ms pre) one)=none:=Option.not_isSome_iff_eq_none.mp fun h=>hn ((Yx ho).mp h)
 have h1:lkN (dAt U ms (pre++[one])) one=some (Jr U.count ms (dAt U ms pre) (jU U) one):=by
  unfold dAt
  rw [List.foldl_append,List.foldl_cons,List.foldl_nil,QD]
  rw [show lkN (List.foldl (jk U ms) (jR U) pre) one=none from hnone]
  simp [dAt]
 refine ⟨?_,fun x hx=>?_,hn⟩
 ·have h2:=ug (post:=post) h1
  rw [show pre++[one]++post=yB U by rw [e];simp,← JQ ho] at h2
  unfold pl;rw [h2];rfl
 ·obtain ⟨p,hp⟩:=Option.isSome_iff_exists.mp ((Yx (ms:=ms) ho).mpr hx)
  have h2:=ug (post:=one::post) hp
  rw [← e,← JQ ho] at h2
  rw [hp];unfold pl;rw [h2];rfl
theorem J6(ho:jy U){ms:List Nat}{x:Nat}(hx:x∈U.entry):pl (jd U ms) x=x:=by
 have h:lkN (jR U) x=some x:=by rw [zr ho,if_pos ((xQ ho).mp hx)]
 have h2:=zq (U:=U) (ms:=ms) (rs:=yB U) h
 have h3:lkN (jd U ms) x=some x:=by rw [JQ ho];exact h2
 unfold pl;rw [h3];rfl
theorem jaM(ho:jy U)(hb:yg U beg){x y:Nat}(hxy:x<y)(hy:y<U.count)(hp:jx U.count (tms U beg) y x=true):pl (jd U (jA U beg)) x≠pl (jd U (jA U beg)) y:=by
 have hym:y∈U.entry++yB U:=by rw [Jm ho];exact List.mem_range.mpr hy
 rcases List.mem_append.mp hym with hye | hyl
 ·rw [J6 ho hye,J6 ho (vL ho hxy hye)];w_up
 ·obtain ⟨pre,post,e⟩:=List.append_of_mem hyl
  obtain ⟨h1,h2,_⟩:=QL (ms:=jA U beg) ho e
  have hxm:x∈U.entry++pre:=by
   have hs:(U.entry++(pre++y::post)).Pairwise (· < ·):=by rw [← e,Jm ho];exact List.pairwise_lt_range
   have hx:x∈U.entry++(pre++y::post):=by rw [← e,Jm ho];exact List.mem_range.mpr (by w_up)
   rw [← List.append_assoc] at hx hs
   rcases List.mem_append.mp hx with hx | hx
   ·exact hx
   ·exfalso
    rw [List.pairwise_append,List.pairwise_cons] at hs
    rcases List.mem_cons.mp hx with rfl | hx
    ·w_up
    ·have:=hs.2.1.1 x hx;w_up
  have ht:(jV U.count (jA U beg) (dAt U (jA U beg) pre) y).testBit (pl (jd U (jA U beg)) x)=true:=takenOf_bit.mpr ⟨x,by w_up,by rw [J1 ho hb];exact hp,h2 x hxm⟩
  intro he
  rw [he,h1,Q4] at ht
  cases ht
theorem jbV(ho:jy U)(hb:yg U beg){x y:Nat}(hx:x<U.count)(hy:y<U.count)(hne:x≠y)(hp:jx U.count (tms U beg) x y=true):pl (jd U (jA U beg)) x≠pl (jd U (jA U beg)) y:=by
 rcases Nat.lt_or_gt_of_ne hne with h | h
 ·exact jaM ho hb h hy (Qk hp)
 ·exact (jaM ho hb h hx hp).symm
theorem QJ(ho:jy U)(hs:JO U av)(hb:yg U beg){d:PD}(hp:∀ x y,x<U.count->y<U.count->x≠y->jx U.count (tms U beg) x y=true->pl d x≠pl d y):yr U.count d (tms U beg)=none:=by
 refine List.findSome?_eq_none_iff.mpr fun t ht=>?_
 have hok:=Xn ho hb t ht
 have h1:Yv d (jn U.count t.all)=none:=by
  refine List.findSome?_eq_none_iff.mpr fun other hoth=>List.findSome?_eq_none_iff.mpr fun one hone=>?_
  by_cases hlt:one<other
  ·have hpr:=V0 ho hs hb hlt ht hone hoth
   rw [decide_eq_false (hp one other (yT hone) (yT hoth) (by w_up) hpr),Bool.and_false];rfl
  ·rw [decide_eq_false hlt];rfl
 have h2:yV d t=none:=by
  refine List.findSome?_eq_none_iff.mpr fun one hone=>?_
  have:((frO t.op).filter fun s=>decide (pl d s=pl d one)).isEmpty=true:=by
   rw [List.isEmpty_iff]
   refine List.filter_eq_nil_iff.mpr fun s hs' he=>?_
   have he:=of_decide_eq_true he
   rcases Vm ht with ⟨hop,_⟩ | ⟨o,hop,_,hg⟩
   ·rw [hop] at hs';simp [frO] at hs'
   ·rw [hop] at hs'
    have hoo:=hok.op o hop
    cases hf:o.isFix with
    |false=>rw [show frO (some o)=[] from yN (by rw [hf];decide)] at hs';simp at hs'
    |true =>
     have hsr:s∈o.reads:=by rw [show frO (some o)=o.reads from yM hf] at hs';exact hs'
     have hne:one≠s:=fun e=>xY hf s hsr (by rw [← hg,← e];exact hone)
     refine hp one s (hok.given one hone) (hoo.1 s hsr) hne ?_ he.symm
     rw [J8]
     refine ⟨t,ht,one,hone,s,?_,hne,Or.inl ⟨rfl,rfl⟩⟩
     unfold Jk
     rw [hop]
     exact List.mem_append_right _ hs'
  rw [if_pos this]
 unfold yz
 rw [h1,h2]
 split<;>rfl
theorem qw{α:Type}{f:α->Nat}:∀ {xs:List α}{c:Nat},c≤xs.foldl (fun c e=>max c (f e)) c/\(∀ x∈xs,f x≤xs.foldl (fun c e=>max c (f e)) c)/\∀ b,c≤b->(∀ x∈xs,f x≤b)->xs.foldl (fun c e=>max c (f e)) c≤b
 |[],c=>⟨Nat.le_refl _,by simp,fun b h _=>h⟩
 |x::xs,c=>by
  obtain ⟨h1,h2,h3⟩:=qw (f:=f) (xs:=xs) (c:=max c (f x))
  rw [List.foldl_cons]
  refine ⟨Nat.le_trans (Nat.le_max_left ..) h1,fun y hy=>?_,fun b hc hb=>h3 b ?_ fun y hy=>hb y (List.mem_cons_of_mem _ hy)⟩
  ·rcases List.mem_cons.mp hy with rfl | hy
   ·exact Nat.le_trans (Nat.le_max_right ..) h1
   ·exact h2 y hy
  ·exact Nat.max_le.mpr ⟨hc,hb x (List.mem_cons_self ..)⟩
theorem ZB(ho:jy U){ms:List Nat}:(∀ r,r<U.count->pl (jd U ms) r<Je U (jd U ms))/\∀ m,m∈(List.range U.count).map (pl (jd U ms))->(∀ y∈(List.range U.count).map (pl (jd U ms)),y≤m)->Je U (jd U ms)=1+m:=by
 obtain ⟨h1,h2,h3⟩:=qw (f:=fun e:Nat×Nat=>(lkN (jd U ms) e.1).getD 0+1) (xs:=jd U ms) (c:=U.entry.length)
 have hge:∀ r,r<U.count->pl (jd U ms) r<Je U (jd U ms):=fun r hr=>by
  obtain ⟨p,hp⟩:=(YF (ms:=ms) ho).1 r hr
  have hm:r∈(jd U ms).map (·.1):=lkN_isSome.mp (by rw [hp];rfl)
  obtain ⟨e,he,rfl⟩:=List.mem_map.mp hm
  exact h2 e he
 refine ⟨hge,fun m hm hmax=>?_⟩
 obtain ⟨r,hr,rfl⟩:=List.mem_map.mp hm
 have ha:=hge r (List.mem_range.mp hr)
 have hb:Je U (jd U ms)≤pl (jd U ms) r+1:=by
  refine h3 _ ?_ fun e he=>?_
  ·by_cases hz:U.entry.length=0
   ·w_up
   ·have hk:U.entry.length - 1∈U.entry:=(xQ ho).mpr (Nat.sub_lt (Nat.pos_of_ne_zero hz) Nat.one_pos)
    have h9:=hmax _ (List.mem_map.mpr ⟨U.entry.length - 1,List.mem_range.mpr (Nat.lt_of_lt_of_le (Nat.sub_lt (Nat.pos_of_ne_zero hz) Nat.one_pos) ho.entc),rfl⟩)
    rw [J6 ho hk] at h9
    exact Nat.le_add_of_sub_le h9
  ·have hin:(lkN (jd U ms) e.1).isSome:=lkN_isSome.mpr (List.mem_map.mpr ⟨e,he,rfl⟩)
   rw [JQ ho,Yx ho,Jm ho] at hin
   have h9:=hmax _ (List.mem_map.mpr ⟨e.1,hin,rfl⟩)
   unfold pl at h9 ⊢
   w_up
 w_up
theorem Qu(ho:jy U)(hs:JO U av)(hb:yg U beg):j1 U beg (jd U (jA U beg)) (Je U (jd U (jA U beg)))=true:=by
 rw [Xg ho (YF ho)]
 unfold J4
 rw [QJ ho hs hb fun x y hx hy hne hp=>jbV ho hb hx hy hne hp]
 have h1:U.entry.map (pl (jd U (jA U beg)))=List.range U.entry.length:=by
  have:U.entry.map (pl (jd U (jA U beg)))=U.entry.map id:=List.map_congr_left fun x hx=>J6 ho hx
  rw [this,List.map_id];exact xc ho
 have h2:((List.range U.count).filter fun r=>!decide (pl (jd U (jA U beg)) r<Je U (jd U (jA U beg))))=[] :=
  List.filter_eq_nil_iff.mpr fun r hr=>by simp [(ZB ho).1 r (List.mem_range.mp hr)]
 rw [decide_eq_true h1,h2];rfl
theorem XG{m:Nat}:(∀ x,lkN ((List.range m).foldl (fun d r=>j5 d r d.length) ([]:PD)) x=if x<m then some x else none)/\((List.range m).foldl (fun d r=>j5 d r d.length) ([]:PD)).length=m:=by
 induction m with
 |zero=>exact ⟨fun x=>rfl,rfl⟩
 |succ m ih =>
  obtain ⟨h1,h2⟩:=ih
  rw [List.range_succ,List.foldl_append,List.foldl_cons,List.foldl_nil]
  refine ⟨fun x=>?_,?_⟩
  ·rw [JE,h1,h2]
   by_cases e:m=x
   ·subst e;rw [if_pos rfl,if_pos (by w_up)]
   ·rw [if_neg e]
    by_cases h:x<m
    ·rw [if_pos h,if_pos (by w_up)]
    ·rw [if_neg h,if_neg (by w_up)]
  ·have hk:=Zy (x:=m) (v:=((List.range m).foldl (fun d r=>j5 d r d.length) ([]:PD)).length) (d:=(List.range m).foldl (fun d r=>j5 d r d.length) ([]:PD))
   have hn:m∉((List.range m).foldl (fun d r=>j5 d r d.length) ([]:PD)).map (·.1):=fun hm=>by
    have:=lkN_isSome.mpr hm
    rw [h1,if_neg (by w_up)] at this;cases this
   rw [if_neg hn] at hk
   have:=congrArg List.length hk
   rw [List.length_map,List.length_append,List.length_map] at this
   rw [this,h2];rfl
theorem XR(ho:jy U)(x:Nat):lkN (yC U) x=if x<U.count then some x else none:=by
 unfold yC;rw [qg ho];exact XG.1 x
theorem ZJ(ho:jy U):(yC U).length=U.count:=by
 unfold yC;rw [qg ho];exact XG.2
theorem zM(ho:jy U){x:Nat}(hx:x<U.count):pl (yC U) x=x:=by unfold pl;rw [XR ho,if_pos hx];rfl
theorem qU(ho:jy U):Total U.count (yC U):=by
 refine ⟨fun r hr=>⟨r,by rw [XR ho,if_pos hr]⟩,fun k p hp=>?_⟩
 rw [XR ho] at hp
 split at hp
 ·cases hp;have:=ho.cnt;w_up
 ·cases hp
theorem VM(ho:jy U)(hs:JO U av)(hb:yg U beg):j1 U beg (yC U) (yC U).length=true:=by
 rw [Xg ho (qU ho),ZJ ho]
 unfold J4
 rw [QJ ho hs hb fun x y hx hy hne _=>by rw [zM ho hx,zM ho hy];exact hne]
 have h1:U.entry.map (pl (yC U))=List.range U.entry.length:=by
  have:U.entry.map (pl (yC U))=U.entry.map id:=List.map_congr_left fun x hx=>zM ho (ho.ent x hx)
  rw [this,List.map_id];exact xc ho
 have h2:((List.range U.count).filter fun r=>!decide (pl (yC U) r<U.count))=[] :=
  List.filter_eq_nil_iff.mpr fun r hr=>by
   have:=List.mem_range.mp hr
   simp [zM ho this,this]
 rw [decide_eq_true h1,h2];rfl
theorem Y6{α β:Type}{q:α->Bool}{g:α->β}:∀ {xs:List α},xs.findSome? (fun x=>if q x then some (g x) else none)=(((xs.filter q).map g)[0]?)
 |[]=>rfl
 |x::xs=>by
  rw [List.findSome?_cons,List.filter_cons]
  cases q x with
  |true=>rfl
  |false=>exact Y6
theorem qR{α:Type}{q:α->Bool}:∀ {xs:List α},xs.find? q=(xs.filter q)[0]?
 |[]=>rfl
 |x::xs=>by
  rw [List.find?_cons,List.filter_cons]
  cases q x with
  |true=>rfl
  |false=>exact qR
theorem UB{xs:List Nat}{y:Nat}:((xs++[y])[0]?).getD 0=(xs[0]?).getD y:=by cases xs<;>rfl
theorem VV(ho:jy U)(hb:yg U beg){pre post:List Nat}{one:Nat}(e:yB U=pre++one::post) :
  pl (jd U (jA U beg)) one=xw U.count (jx U.count (tms U beg)) (jd U (jA U beg)) (jU U) (U.entry++pre) one:=by
 obtain ⟨h1,h2,h3⟩:=QL (ms:=jA U beg) ho e
 have hlt:∀ x∈U.entry++pre,x<U.count:=fun x hx=>by
  have:x∈U.entry++yB U:=by
   rw [e];rcases List.mem_append.mp hx with hx | hx<;>simp [hx]
  rw [Jm ho] at this;exact List.mem_range.mp this
 have hT:∀ p,(jV U.count (jA U beg) (dAt U (jA U beg) pre) one).testBit p=decide (p∈yp (jx U.count (tms U beg)) (jd U (jA U beg)) (U.entry++pre) one):=fun p=>by
  rw [Bool.eq_iff_iff,takenOf_bit,decide_eq_true_eq]
  unfold yp
  rw [List.mem_map]
  simp only [List.mem_filter]
  constructor
  ·rintro ⟨o,ho1,ho2,ho3⟩
   have hm:o∈U.entry++pre:=(Yx (ms:=jA U beg) ho).mp (by rw [ho3];rfl)
   rw [h2 o hm] at ho3
   rw [J1 ho hb] at ho2
   exact ⟨o,⟨hm,ho2⟩,Option.some.inj ho3⟩
  ·rintro ⟨o,⟨hm,ho2⟩,rfl⟩
   exact ⟨o,hlt o hm,by rw [J1 ho hb];exact ho2,h2 o hm⟩
 rw [h1]
 unfold Jr xw
 rw [UB]
 generalize jV U.count (jA U beg) (dAt U (jA U beg) pre) one=T at *
 generalize yp (jx U.count (tms U beg)) (jd U (jA U beg)) (U.entry++pre) one=TL at *
 have hw:(((jU U)[one]?).getD []).findSome? (fun o=>match lkN (dAt U (jA U beg) pre) o with | some p=>if T.testBit p then none else some p | none=>none)=(yq (jd U (jA U beg)) (jU U) (U.entry++pre) TL one)[0]?:=by
  unfold yq
  rw [← Y6]
  refine JK fun o _=>?_
  by_cases hm:o∈U.entry++pre
  ·rw [h2 o hm]
   simp only
   rw [hT]
   by_cases hp:pl (jd U (jA U beg)) o∈TL
   ·simp [hm,hp]
   ·simp [hm,hp]
  ·have:lkN (dAt U (jA U beg) pre) o=none:=Option.not_isSome_iff_eq_none.mp fun h=>hm ((Yx ho).mp h)
   rw [this];simp [hm]
 refine Eq.trans (congrArg (fun z:Option Nat=>z.getD (Jh U.count T)) hw) ?_
 show Option.getD _ _=Option.getD _ _
 congr 1
 unfold Jh x8
 rw [qR]
 congr 2
 refine List.filter_congr fun i _=>?_
 rw [hT];simp
end
theorem jhi{A:Ad}{kn k cnt:Nat}{s:Int}{en ks:List Nat}{zs:List Z}{R:HL}{st:St}(h:H st (W A kn k s cnt ks zs R))(hS:SI en cnt zs [] [])(he:(A.e,MObj.list (jc en))∈R):UnAt st A.u (zUn en cnt zs):=by
 refine ⟨A.d,A.e,A.bl,zs.map Z.a,h.get (by unfold W;simp [uO,zUn]),h.get (W_R he),h.get (by unfold W;simp),by unfold zUn;simp,fun i b B hb hB=>?_⟩
 obtain ⟨z,hz,rfl⟩:=qo hB
 rw [List.getElem?_map,hz] at hb
 simp only [Option.map_some,Option.some.injEq] at hb
 subst hb
 have hm:=List.mem_of_getElem? hz
 have h1:=h.get (uk hm)
 have hi:=hS.idx i z hz
 obtain ⟨E,hE⟩:∃ E,z.fin=some E:=by
  cases hf:z.fin with
  |none=>have:=hS.opn i z hz hf;simp at this
  |some E=>exact ⟨E,rfl⟩
 have hobj:∀ x∈z.objs,x∈W A kn k s cnt ks zs R:=fun x hx=>by
  unfold W
  simp only [List.mem_cons,List.mem_append,List.mem_flatMap]
  exact Or.inr (Or.inr (Or.inr (Or.inr (Or.inr (Or.inl ⟨z,hm,hx⟩)))))
 refine ⟨z.d,z.p,z.o,?_,h.get (hobj _ (by simp [Z.objs,zBk])),h.get (hobj _ (by simp [Z.objs,zBk]))⟩
 unfold Z.inst at h1
 rw [h1,hi]
 unfold Z.endv zBk
 rw [hE];rfl
theorem jeM{en:List Nat}{cnt:Nat}(h:en=List.range cnt):SI en cnt [] [] [] where
 ord:=by simp [h]
 idx:=by simp
 p0:=by simp
 small:=by simp
 rd:=by simp
 uf:=by simp
 par:=by simp
 old:=by simp
 closed:=by simp
 opn:=by simp
 pred:=by simp
theorem jfN{a b c:Nat}(h:0<a):0<a+b+c:=Nat.add_pos_left (Nat.add_pos_left h _) _
theorem u_k{k k9 k13 p m:Nat}(a:k9≤k+20+60*p)(b:m<3)(c:k13≤k9+1+1+m+7):k13≤k+20+60*(p+1):=by w_up
theorem u_c{c9 p m l:Nat}(a:c9≤20+20*p)(b:m<3)(c:l≤4):c9+m+l≤20+20*(p+1):=by w_up
theorem jgH{k k9 p:Nat}(h:k<1000)(a:k9≤k+20+60*p)(b:p<4):k9<1260:=by w_up
theorem jfB{c9 p:Nat}(a:c9≤20+20*p)(b:p<4):c9<100:=by w_up
theorem jfu{c9 p:Nat}(a:c9≤1+3*p)(b:p<4):c9<14:=by w_up
set_option tactic.hygienic true in
theorem XW{n dk sc k:Nat}{s:Int}{xs:List Int}{st:St}{K:MV->St->Prop}(h:H st [(dk,jO sc k s),(sc,scO xs)])(hk:k<1000)(hs:JN s)
  (hK:∀ u U av k' s' st',UnAt st' u U->jy U->JO U av->0<U.count->JN s'->k'<100000->H st' [(dk,jO sc k' s'),(sc,scO xs)]->K (.ref u) st'):Cl (n+6) "_law_unit" [.ref dk] st K:=by
 refine jr (fn:=fn_law_unit) (by decide) rfl rfl ?_
 unfold fn_law_unit
 one_place
 l_ints
 refine XX h fun u d e0 bl st1 H1=>?_
 have H1a:=H.mv (L₁:=[_,_,_,_]) (L₂:=[]) H1
 have H1b:=H.mv (L₁:=[_,_,_,_]) (L₂:=[]) H1a
 have H1:H st1 [(dk,jO sc k s),(sc,scO xs),(u,uO d e0 bl 0),(bl,.list []),(e0,.list [])]:=H.mv (L₁:=[_,_]) (L₂:=[_,_]) H1b
 l_ints
 refine jZ (many:=2) H1 (by w_up) hs (by decide) fun m st2s st2 hm hs2 H2=>?_
 refine Q2 ?_
 have hb:1+(m:Int)<(jb:Int):=Int.lt_of_lt_of_le (show 1+(m:Int)<3 by w_up) (by decide)
 refine ⟨_,rfl,⟨by w_up,hb⟩,?_⟩
 have hmt:(1+(m:Int)).toNat=m+1:=by w_up
 rw [hmt]
 refine cpA (mv:=fun i:Nat=>MV.int (i:Int)) (fun pre acc st'=>acc=jc (List.range' 0 pre.length)/\H st' [(dk,jO sc (k+1) st2s),(sc,scO xs),(u,uO d e0 bl pre.length),(bl,.list []),(e0,.list [])]) ⟨rfl,H2⟩ (fun _ _ _ _=>jH) ?_ ?_
 ·rintro pre i post e acc st3 ⟨rfl,H3⟩ K' hK'
  refine Qp (vB (A:=[_,_]) (by rfl) H3 fun st4 H4=>?_)
  refine hK' _ _ ⟨?_,?_⟩
  ·rw [List.length_append,List.length_singleton,List.range'_concat,← js,Nat.one_mul,Nat.zero_add];rfl
  ·rw [List.length_append,List.length_singleton];exact H4
 rintro acc st3 ⟨rfl,H3⟩
 rw [List.length_range] at H3 ⊢
 refine YD rfl (by rw [List.length_range'];unfold jb;w_up) fun e st4 l4 n4 he=>?_
 have H4:=H3.new l4 n4 he
 have hu4:st4 u=some (uO d e0 bl (m+1)):=H4.get (by kst_mem)
 unfold uO at hu4
 l_ints
 refine sax hu4 (ble rfl) fun st5 l5 h5=>?_
 have H5:H st5 ([(e,MObj.list (jc (List.range' 0 (m+1)))),(dk,jO sc (k+1) st2s),(sc,scO xs)]++(u,uO d e bl (m+1))::[(bl,.list []),(e0,.list [])]):=H.upd (A:=[_,_,_]) H4 l5 h5
 have hu5:st5 u=some (uO d e bl (m+1)):=H5.get (by kst_mem)
 have he5:st5 e=some (.list (jc (List.range' 0 (m+1)))):=H5.get (by kst_mem)
 unfold uO at hu5
 l_ints
 refine ⟨by rw [je,List.length_range'];unfold jb;w_up,al fun kn st6 l6 n6 hkn=>?_⟩
 have H6:=H5.new l6 n6 hkn
 have H6:H st6 (W ⟨dk,sc,u,bl,d,e,xs⟩ kn (k+1) st2s (m+1) (List.range' 0 (m+1)) [] [(e,.list (jc (List.range' 0 (m+1)))),(e0,.list [])]) :=
  H.mv (L₁:=[_,_,_,_,_]) (L₂:=[_]) (H.mv (L₁:=[_,_,_,_]) (L₂:=[_,_]) H6)
 have hen:List.range' 0 (m+1)=List.range (m+1):=List.range_eq_range'.symm
 have S6:=jeM (cnt:=m+1) hen
 have hkn6:Known (List.range' 0 (m+1)) [] (List.range' 0 (m+1)):=fun r hr=>Or.inl hr
 l_ints
 refine JL (A:=⟨dk,sc,u,bl,d,e,xs⟩) (many:=0) H6 S6 hkn6 (fun r hr=>by rw [hen] at hr;exact List.mem_range.mp hr) (by w_up) hs2 (by rw [List.length_range'];w_up) (by rw [List.length_range'];w_up) (by decide) (by decide) (fun _=>rfl) fun z k7 c7 s7 st7 hzi hzf hzp hza hs7 S7 hk7 hc7 hzl H7=>?_
 have S7:=S7.mono (op':=[0]) (pend':=[0]) (fun i hi=>hi) (fun i hi=>hi)
 have S7:SI (List.range' 0 (m+1)) c7 ([]++[z]) [0] []:=⟨S7.ord,S7.idx,S7.p0,S7.small,S7.rd,S7.uf,S7.par,S7.old,S7.closed,S7.opn,fun c h1 h2=>by simp at h2;w_up⟩
 have hzp0:z.params=[]:=List.length_eq_zero_iff.mp hzp
 have hB7:BS ⟨dk,sc,u,bl,d,e,xs⟩ kn 0 (List.range' 0 (m+1)) st7 [(e,.list (jc (List.range' 0 (m+1)))),(e0,.list [])] k7 c7 s7 (z.av++z.wr) ([]++[z]) z:=by
  refine ⟨H7,S7,rfl,hzf,rfl,hs7,?_,?_⟩
  ·rw [List.length_append,hza,List.length_append,List.length_range'];w_up
  ·rw [List.length_append,hza,List.length_append,List.length_range',hzp0,List.length_nil];w_up
 generalize hE:List.range' 0 (m+1)=en at *
 have hel:en.length=m+1:=by rw [← hE,List.length_range']
 l_ints
 refine jZ (many:=4) hB7.hp (by w_up) hB7.sok (by decide) fun q s8 st8 hq hs8 H8=>?_
 refine ⟨_,rfl,⟨Int.natCast_nonneg _,Int.ofNat_lt.mpr (by unfold jb;w_up)⟩,?_⟩
 rw [Int.toNat_natCast]
 refine lp (mv:=fun i:Nat=>MV.int (i:Int)) (fun pre ρ st'=>∀ G:ja->St->Prop,(∀ h k' c' s' ks zs z,BS ⟨dk,sc,u,bl,d,e,xs⟩ kn h en st' [(e,.list (jc en)),(e0,.list [])] k' c' s' ks zs z->k'≤k+20+60*pre.length->c'≤20+20*pre.length->zs.length≤1+3*pre.length->m+1≤c'->∀ a b c f g,G [("deck",some (.ref dk)),("unit",some (.ref u)),("known",some (.ref kn)),("here",some (.ref z.a)),("turn",a),("way",b),("many",c),("row",f),("later",g)] st')->G ρ st')
   (fun _ k=>k 0 (k7+1) c7 s8 _ _ z ⟨H8,hB7.si,hB7.here,hB7.fin,hB7.kse,hs8,hB7.ne,hB7.kl⟩ (by simp;w_up) (by simp;w_up) (by simp) (by w_up) _ _ _ _ _) (fun _ _ _ _=>jH) ?_ ?_
 ·rintro pre i post ep ρ st9 I1 K' hK'
  apply I1;intro h k9 c9 s9 ks zs z hB hk9 hc9 hz9 hm9 a b c f g
  have hpre:pre.length<4:=by
   have:=congrArg List.length ep
   rw [List.length_range,List.length_append,List.length_cons] at this;w_up
  have kb:=jgH hk hk9 hpre
  have kb2:k9+1+1<1262:=Nat.add_lt_add_right kb 2
  have cb:=jfB hc9 hpre
  have zb:=jfu hz9 hpre
  l_ints
  refine jZ (many:=3) hB.hp (by w_up) hB.sok (by decide) fun way s10 st10 hway hs10 H10=>?_
  l_ints
  refine jZ (many:=3) H10 (by w_up) hs10 (by decide) fun many s11 st11 hmany hs11 H11=>?_
  have hB11:BS ⟨dk,sc,u,bl,d,e,xs⟩ kn h en st11 [(e,.list (jc en)),(e0,.list [])] (k9+1+1) c9 s11 ks zs z:=⟨H11,hB.si,hB.here,hB.fin,hB.kse,hs11,hB.ne,hB.kl⟩
  have hkb:=hB.kl
  have kmb:k9+1+1+many<1265:=Nat.add_lt_add kb2 hmany
  l_ints
  refine Qy rfl ?_
  l_ints
  refine vm (yQ (fun hw=>?_) fun hw=>?_)
  ·obtain ⟨hH,hS,hh,hf,hks,hs',hne,hkl⟩:=hB11
   have hkn:=hS.known hh
   rw [← hks] at hkn
   have hlt:h<zs.length:=(List.getElem?_eq_some_iff.mp hh).1
   have hzk:∀ r∈ks,r∈z.av\/r∈z.wr:=fun r hr=>by rw [hks] at hr;exact List.mem_append.mp hr
   l_ints
   refine yn (it:=kn) (is:=ks) hH (by w_up) (by w_up) hs' X4 hne fun row s12 st12 hrl hrm hs12 H12=>?_
   have H12:H st12 (W ⟨dk,sc,u,bl,d,e,xs⟩ kn (k9+1+1+many) s12 c9 ks zs [(e,.list (jc en)),(e0,.list [])]):=H12
   l_ints
   refine JL (A:=⟨dk,sc,u,bl,d,e,xs⟩) H12 hS hkn.1 hkn.2 (by w_up) hs12 hne (by w_up) (by w_up) (by w_up) (fun e=>by rw [e] at hlt;simp at hlt) fun lt k13 c13 s13 st13 lti ltf ltp lta hs13 S13 hk13 hc13 ltl H13=>?_
   have g1:(zs++[lt])[zs.length]? = some lt:=ap0
   have g0:(zs++[lt])[h]? = some z:=yl hh
   have ltn:=QH H13 S13 g1
   l_ints
   refine zB (E:=.goto zs.length row) H13 g0 fun st14 H14=>?_
   have S14:=xy (E:=.goto zs.length row) S13 g0 hf (fun r hr=>hzk r (hrm r hr)) (show row.length≤4 by w_up) (fun c hc=>by
    rw [List.mem_singleton.mp hc]
    refine ⟨lt,g1,fun r hr hn=>?_⟩
    rw [lta] at hr
    rcases List.mem_append.mp hr with hr | hr
    ·exact hzk r hr
    ·exact absurd hr hn)
   have S15:=S14.mono (op':=[zs.length]) (pend':=[]) (fun i hi=>by
    have h1:=List.mem_filter.mp hi
    have h2:i≠h:=by simpa using h1.2
    have h3:=h1.1
    simp only [List.mem_cons,List.not_mem_nil,or_false] at h3 ⊢
    exact h3.resolve_right h2) (fun i hi=>by
    exfalso
    have h1:=List.mem_filter.mp hi
    have q1:¬(i∈[zs.length]/\h<i):=of_decide_eq_false (Bool.not_eq_true' _ |>.mp h1.2)
    have h3:=h1.1
    simp only [List.mem_cons,List.not_mem_nil,or_false] at q1 h3
    exact q1 ⟨h3,by rw [h3];exact hlt⟩)
   have g1f:((zs++[lt]).set h (z.close (.goto zs.length row)))[zs.length]? = some lt:=sne g1 (by w_up)
   l_ints
   refine hK' _ _ (fun _ k=>k zs.length k13 c13 s13 (lt.av++lt.wr) _ lt ⟨H14,S15,g1f,ltf,rfl,hs13,?_,?_⟩ ?_ ?_ ?_ (by rw [hc13];exact Nat.le_add_right_of_le (Nat.le_add_right_of_le hm9)) _ _ _ _ _)
   ·rw [List.length_append,lta,List.length_append];exact jfN hne
   ·rw [List.length_append,lta,List.length_append,ltp,hc13];exact Nat.add_le_add_right (Nat.add_le_add_right hB.kl _) _
   ·rw [List.length_append,List.length_singleton];exact u_k hk9 hmany hk13
   ·rw [List.length_append,List.length_singleton,hc13];exact u_c hc9 hmany ltl
   ·rw [List.length_set,List.length_append,List.length_append,List.length_singleton,List.length_singleton];w_up
  ·l_ints
   refine vm (yQ (fun hw=>?_) fun hw=>?_)
   ·l_ints
    refine qq (A:=⟨dk,sc,u,bl,d,e,xs⟩) hB11 (by w_up) (by w_up) (by w_up) (by w_up) fun k' cnt' s' ks' zs' h' z' st' hB' hk' hc' hz'=>?_
    l_ints
    refine hK' _ _ (fun _ k=>k h' k' cnt' s' ks' zs' z' hB' ?_ ?_ ?_ ?_ _ _ _ _ _)
    ·rw [List.length_append,List.length_singleton];w_up
    ·rw [List.length_append,List.length_singleton];w_up
    ·rw [List.length_append,List.length_singleton];w_up
    ·have:=congrArg List.length hB'.si.ord
     rw [List.length_append,List.length_range] at this;w_up
   ·l_ints
    refine X9 (A:=⟨dk,sc,u,bl,d,e,xs⟩) hB11 (by w_up) (by w_up) (by w_up) (by w_up) fun k' cnt' s' ks' zs' h' z' st' hB' hk' hc' hz'=>?_
    l_ints
    refine hK' _ _ (fun _ k=>k h' k' cnt' s' ks' zs' z' hB' ?_ ?_ ?_ ?_ _ _ _ _ _)
    ·rw [List.length_append,List.length_singleton];w_up
    ·rw [List.length_append,List.length_singleton];w_up
    ·rw [List.length_append,List.length_singleton];w_up
    ·have:=congrArg List.length hB'.si.ord
     rw [List.length_append,List.length_range] at this;w_up
 ·rintro ρ st9 I1
  apply I1;intro h k9 c9 s9 ks zs z ee2 hk9 hc9 hz9 hm9 a b c f g
  obtain ⟨hH,hS,hh,hf,hks,hs9,hne,hkl⟩:=ee2
  rw [List.length_range] at hk9 hc9 hz9
  have kb:=jgH hk hk9 hq
  have kb2:k9+1+1<1262:=Nat.add_lt_add_right kb 2
  have kb4:k9+1+1+1+1<1264:=Nat.add_lt_add_right kb 4
  have cb:=jfB hc9 hq
  have zb:=jfu hz9 hq
  have hzk:∀ r∈ks,r∈z.av\/r∈z.wr:=fun r hr=>by rw [hks] at hr;exact List.mem_append.mp hr
  have fin:∀ (E:En) (k':Nat) (s':Int) (st':St),(∀ r∈E.reads,r∈ks)->E.reads.length≤4->E.next=[]->JN s'->k'<100000->H st' (W ⟨dk,sc,u,bl,d,e,xs⟩ kn k' s' c9 ks (zs.set h (z.close E)) [(e,.list (jc en)),(e0,.list [])])->K (.ref u) st':=by
   intro E k' s' st' hr hl hn hs' hk' H'
   have S':=xy (E:=E) hS hh hf (fun r h=>hzk r (hr r h)) hl (fun c hc=>by rw [hn] at hc;simp at hc)
   have S':=S'.mono (op':=[]) (pend':=[]) (fun i hi=>by
    have h1:=List.mem_filter.mp hi
    have h2:i≠h:=by simpa using h1.2
    exact absurd (List.mem_singleton.mp h1.1) h2) (fun i hi=>by simp at hi)
   have hlen:(zs.set h (z.close E)).length=zs.length:=List.length_set ..
   have hzl:h<zs.length:=(List.getElem?_eq_some_iff.mp hh).1
   refine hK u (zUn en c9 (zs.set h (z.close E))) _ k' s' st' (jhi H' S' (by simp)) (jfJ S' (by w_up) (by w_up) (by w_up) (by w_up)) (Ur S') (show 0<c9 by w_up) hs' hk' ?_
   exact H'.sub (.cons_cons _ (.cons_cons _ (List.nil_sublist _)))
  l_ints
  refine jZ (many:=2) hH (by w_up) hs9 (by decide) fun q2 s10 st10 hq2 hs10 H10=>?_
  have H10:H st10 (W ⟨dk,sc,u,bl,d,e,xs⟩ kn (k9+1) s10 c9 ks zs [(e,.list (jc en)),(e0,.list [])]):=H10
  l_ints
  refine vm (yQ (fun hw=>?_) fun hw=>?_)
  ·l_ints
   refine j7 (it:=kn) (is:=ks) H10 (by w_up) hs10 X4 hne fun x s11 st11 hx hs11 H11=>?_
   have H11:H st11 (W ⟨dk,sc,u,bl,d,e,xs⟩ kn (k9+1+1) s11 c9 ks zs [(e,.list (jc en)),(e0,.list [])]):=H11
   l_ints
   refine yn (many:=2) (it:=kn) (is:=ks) H11 (by w_up) (by w_up) hs11 X4 hne fun row s12 st12 hrl hrm hs12 H12=>?_
   have H12:H st12 (W ⟨dk,sc,u,bl,d,e,xs⟩ kn (k9+1+1+2) s12 c9 ks zs [(e,.list (jc en)),(e0,.list [])]):=H12
   l_ints
   refine zB (E:=.give x row) H12 hh fun st13 H13=>?_
   l_ints
   exact fin (.give x row) _ s12 st13 (fun r hr=>by
    rcases List.mem_cons.mp hr with rfl | hr
    ·exact hx
    ·exact hrm r hr) (by simp [En.reads,hrl]) rfl hs12 (by w_up) H13
  ·l_ints
   refine j7 (it:=kn) (is:=ks) H10 (by w_up) hs10 X4 hne fun x s11 st11 hx hs11 H11=>?_
   have H11:H st11 (W ⟨dk,sc,u,bl,d,e,xs⟩ kn (k9+1+1) s11 c9 ks zs [(e,.list (jc en)),(e0,.list [])]):=H11
   l_ints
   refine j7 (it:=kn) (is:=ks) H11 (by w_up) hs11 X4 hne fun y s12 st12 hy hs12 H12=>?_
   have H12:H st12 (W ⟨dk,sc,u,bl,d,e,xs⟩ kn (k9+1+1+1) s12 c9 ks zs [(e,.list (jc en)),(e0,.list [])]):=H12
   l_ints
   refine yn (many:=1) (it:=kn) (is:=ks) H12 (by w_up) (by w_up) hs12 X4 hne fun row s13 st13 hrl hrm hs13 H13=>?_
   have H13:H st13 (W ⟨dk,sc,u,bl,d,e,xs⟩ kn (k9+1+1+1+1) s13 c9 ks zs [(e,.list (jc en)),(e0,.list [])]):=H13
   l_ints
   refine zB (E:=.call x y row) H13 hh fun st14 H14=>?_
   l_ints
   exact fin (.call x y row) _ s13 st14 (fun r hr=>by
    rcases List.mem_cons.mp hr with rfl | hr
    ·exact hx
    ·rcases List.mem_cons.mp hr with rfl | hr
     ·exact hy
     ·exact hrm r hr) (by simp [En.reads,hrl]) rfl hs13 (by w_up) H14
def Odd(o:MObj):Prop:=(∃ es,o=.idict es)\/∃ sc k s,o=jO sc k s
theorem Xc{o:MObj}{c d fs}(h:Odd o):o≠.inst c d fs:=by
 rcases h with ⟨es,rfl⟩ | ⟨sc,k,s,rfl⟩<;>intro e<;>cases e
theorem Ug{o:MObj}{es}(h:Odd o):o≠.tdict es:=by
 rcases h with ⟨es,rfl⟩ | ⟨sc,k,s,rfl⟩<;>intro e<;>cases e
theorem qc{o:MObj}{xs:List Nat}(h:Odd o):o≠.list (jc xs):=by
 rcases h with ⟨es,rfl⟩ | ⟨sc,k,s,rfl⟩
 ·intro e;cases e
 ·intro e
  unfold jO at e
  simp only [qu,jc] at e
  cases xs with
  |nil=>simp at e
  |cons x xs=>simp at e
theorem QV{o:MObj}{xs:List Nat}(h:Odd o):o≠.list (xs.map .ref):=by
 rcases h with ⟨es,rfl⟩ | ⟨sc,k,s,rfl⟩
 ·intro e;cases e
 ·intro e
  unfold jO at e
  simp only [qu] at e
  cases xs with
  |nil=>simp at e
  |cons x xs=>cases xs with
   |nil=>simp at e
   |cons y xs=>simp at e
theorem jcd{o:MObj}{xs:List Op}(h:Odd o):o≠.list (xs.map Op.mv):=by
 rcases h with ⟨es,rfl⟩ | ⟨sc,k,s,rfl⟩
 ·intro e;cases e
 ·intro e
  unfold jO at e
  simp only [qu] at e
  cases xs with
  |nil=>simp at e
  |cons x xs=>cases x<;>simp [Op.mv] at e
theorem OL{o:MObj}{a b c d e:MV}(h:Odd o):o≠.list [a,b,c,d,e]:=by
 rcases h with ⟨es,rfl⟩ | ⟨sc,k,s,rfl⟩
 ·intro e;cases e
 ·intro e
  unfold jO at e
  simp [qu] at e
theorem lxo{st st':St}{a x:Nat}{o o':MObj}(l:Lx [a] st st')(ha:st a=some o)(hx:st x=some o')(hne:o≠o'):st' x=some o' :=
 lxg l (fun e=>by rw [e,ha] at hx;exact hne (Option.some.inj hx)) hx
theorem UnAt.lxo{st st':St}{a u:Nat}{o:MObj}{U:Un}(h:UnAt st u U)(l:Lx [a] st st')(ha:st a=some o)(ho:Odd o):UnAt st' u U:=by
 obtain ⟨d,e,bl,bs,h1,h2,h3,h4,h5⟩:=h
 refine ⟨d,e,bl,bs,Mine.lxo l ha h1 (Xc ho),Mine.lxo l ha h2 (qc ho),Mine.lxo l ha h3 (QV ho),h4,fun i b B x y=>?_⟩
 obtain ⟨d,p,q,g1,g2,g3⟩:=h5 i b B x y
 exact ⟨d,p,q,Mine.lxo l ha g1 (Xc ho),Mine.lxo l ha g2 (qc ho),Mine.lxo l ha g3 (jcd ho)⟩
theorem TsAt.lxo{N:Nat}{st st':St}{a tl:Nat}{o:MObj}{ts:List Tm}(h:TsAt N st tl ts)(l:Lx [a] st st')(ha:st a=some o)(ho:Odd o):TsAt N st' tl ts:=by
 obtain ⟨rs,h1,h2,h3⟩:=h
 refine ⟨rs,Mine.lxo l ha h1 (QV ho),h2,fun i r t x y=>?_⟩
 obtain ⟨g,q,g1,g2,g3⟩:=h3 i r t x y
 exact ⟨g,q,Mine.lxo l ha g1 (OL ho),Mine.lxo l ha g2 (qc ho),Mine.lxo l ha g3 (qc ho)⟩
theorem PairsAt.lxo{N:Nat}{st st':St}{a f:Nat}{o:MObj}{P:Nat->Nat->Bool}(h:PairsAt N st f P)(l:Lx [a] st st')(ha:st a=some o)(ho:Odd o):PairsAt N st' f P:=by
 obtain ⟨es,h1,h2⟩:=h.ex
 exact ⟨es,Mine.lxo l ha h1 (Ug ho),h2⟩
theorem PlAt.lxo{st st':St}{a p f c:Nat}{o:MObj}(h:PlAt st p f c)(l:Lx [a] st st')(ha:st a=some o)(ho:Odd o):PlAt st' p f c:=by
 obtain ⟨d,h1⟩:=h
 exact ⟨d,Mine.lxo l ha h1 (Xc ho)⟩
theorem PlAt.le{st st':St}{p f c:Nat}(h:PlAt st p f c)(l:Le st st'):PlAt st' p f c:=by
 obtain ⟨d,h1⟩:=h
 exact ⟨d,l _ _ h1⟩
structure Kept(U:Un)(ts:List Tm)(u tl pr p1 f1 c1 p2 f2 c2:Nat)(d1 d2:PD)(st:St):Prop where
 un:UnAt st u U
 tms:TsAt U.count st tl ts
 prs:PairsAt U.count st pr (jx U.count ts)
 pl1:PlAt st p1 f1 c1
 of1:st f1=some (.idict (dP d1))
 pl2:PlAt st p2 f2 c2
 of2:st f2=some (.idict (dP d2))
section
variable {U:Un}{ts:List Tm}{u tl pr p1 f1 c1 p2 f2 c2:Nat}{d1 d2:PD}{st st':St}
theorem Kept.le(h:Kept U ts u tl pr p1 f1 c1 p2 f2 c2 d1 d2 st)(l:Le st st'):Kept U ts u tl pr p1 f1 c1 p2 f2 c2 d1 d2 st' :=
 ⟨h.un.le l,h.tms.le l,h.prs.le l,h.pl1.le l,l _ _ h.of1,h.pl2.le l,l _ _ h.of2⟩
theorem Kept.lxo{a:Nat}{o:MObj}(h:Kept U ts u tl pr p1 f1 c1 p2 f2 c2 d1 d2 st)(l:Lx [a] st st')(ha:st a=some o)(ho:Odd o)(h1:f1≠a)(h2:f2≠a):Kept U ts u tl pr p1 f1 c1 p2 f2 c2 d1 d2 st' :=
 ⟨h.un.lxo l ha ho,h.tms.lxo l ha ho,h.prs.lxo l ha ho,h.pl1.lxo l ha ho,lxg l h1 h.of1,h.pl2.lxo l ha ho,lxg l h2 h.of2⟩
end
theorem H.nil{st:St}:H st []:=⟨List.nodup_nil,by simp⟩
theorem Zq:∀ {xs:List Int},(∀ x∈xs,0≤x/\x<10000)->0≤xs.sum/\xs.sum≤10000*(xs.length:Int)
 |[],_=>by simp
 |x::xs,h=>by
  have h1:=h x (List.mem_cons_self ..)
  have h2:=Zq (xs:=xs) fun y hy=>h y (List.mem_cons_of_mem _ hy)
  rw [List.sum_cons,List.length_cons]
  w_up
theorem Uq{ps:List (Nat×Nat)}:∀ {d:PD},(ps.map fun p:Nat×Nat=>((p.1:Int),MV.int (p.2:Nat))).foldl (fun d e=>Ju d e.1 e.2) (dP d)=dP (ps.foldl (fun d p=>j5 d p.1 p.2) d):=by
 induction ps with
 |nil=>intro d;rfl
 |cons p ps ih =>
  intro d
  rw [List.map_cons,List.foldl_cons,List.foldl_cons]
  have:Ju (dP d) ((p.1:Nat):Int) (MV.int (p.2:Nat))=dP (j5 d p.1 p.2):=G0 (f:=fun p:Nat=>.int (p:Nat))
  rw [this,ih]
set_option tactic.hygienic true in
theorem jbN{ps:List (Nat×Nat)}:∀ {d:PD}{x v:Nat},lkN (ps.foldl (fun d p=>j5 d p.1 p.2) d) x=some v->lkN d x=some v\/∃ p∈ps,p.1=x/\p.2=v:=by
 induction ps with
 |nil=>intro d x v h;exact Or.inl h
 |cons p ps ih =>
  intro d x v h
  rcases ih h with h | ⟨q,hq,h⟩
  ·rw [JE] at h
   split at h
   ·rename_i e;exact Or.inr ⟨p,List.mem_cons_self ..,e,Option.some.inj h⟩
   ·exact Or.inl h
  ·exact Or.inr ⟨q,List.mem_cons_of_mem _ hq,h⟩
theorem oj{ps:List (Nat×Nat)}:∀ {d:PD}{x:Nat},((lkN d x).isSome\/x∈ps.map (·.1))->(lkN (ps.foldl (fun d p=>j5 d p.1 p.2) d) x).isSome:=by
 induction ps with
 |nil=>intro d x h;exact h.resolve_right (by simp)
 |cons p ps ih =>
  intro d x h
  refine ih ?_
  rw [JE]
  rcases h with h | h
  ·left;split
   ·rfl
   ·exact h
  ·rcases List.mem_cons.mp h with h | h
   ·left;rw [if_pos h.symm];rfl
   ·exact Or.inr h
theorem ZM{N k v:Nat}{d:PD}(h:Total N d)(hv:v<4096):Total N (j5 d k v):=by
 refine ⟨fun r hr=>?_,fun j p hp=>?_⟩
 ·rw [JE]
  split
  ·exact ⟨v,rfl⟩
  ·exact h.1 r hr
 ·rw [JE] at hp
  split at hp
  ·cases hp;exact hv
  ·exact h.2 j p hp
theorem gX{N:Nat}{ps:List (Nat×Nat)}:∀ {d:PD},Total N d->(∀ p∈ps,p.2<4096)->Total N (ps.foldl (fun d p=>j5 d p.1 p.2) d):=by
 induction ps with
 |nil=>intro d h _;exact h
 |cons p ps ih=>intro d h hp;exact ih (ZM h (hp p (List.mem_cons_self ..))) fun q hq=>hp q (List.mem_cons_of_mem _ hq)
theorem gS{U:Un}(ho:jy U){ms:List Nat}:Je U (jd U ms)≤U.count+1:=by
 obtain ⟨h1,h2,h3⟩:=qw (f:=fun e:Nat×Nat=>(lkN (jd U ms) e.1).getD 0+1) (xs:=jd U ms) (c:=U.entry.length)
 refine h3 _ (by have:=ho.entc;w_up) fun e he=>?_
 have:=Jg (U:=U) (ms:=ms) (rs:=zn U) (d:=jR U) (YU gW (by rw [Nat.zero_add];exact ho.entc))
 cases z:lkN (jd U ms) e.1 with
 |none=>simp
 |some p=>have:=this e.1 p z;simp only [Option.getD_some];w_up
theorem vy{n u tl f c:Nat}{U:Un}{beg:List Nat}{d:PD}{st:St}{K:MV->St->Prop}(hu:UnAt st u U)(ho:jy U)(hb:yg U beg)(ht:TsAt U.count st tl (tms U beg))(hf:st f=some (.idict (dP d)))(hd:Total U.count d)
  (hk:∀ st',Le st st'->K (.bool true) st'):Cl (n+8) "_law_is_told_right" [.ref u,.ref tl,.ref f,.int c] st K:=by
 refine ze hu ho hb ht hf hd fun st' l=>?_
 rw [Vt,decide_eq_true rfl,Bool.true_and,Xg ho hd,beq_self_eq_true]
 exact hk st' l
theorem jau{n:Nat}{script:List Int}{st:St}{K:MV->St->Prop}(hs:script.length≤63)(hK:∀ st',K (.bool true) st'):Cl (n+9) "law" [.clist script] st K:=by
 refine jr (fn:=fn_law) (by decide) rfl rfl ?_
 unfold fn_law
 one_place
 have hys:(script.take 60).length≤60:=by rw [List.length_take];w_up
 l_ints
 refine jfQ ⟨by rw [List.length_map];unfold jb;w_up,al fun l0 st1 l1 n1 hl0=>?_⟩
 l_ints
 refine ⟨by decide,Or.inr ⟨_,_,rfl,hl0,al fun sc st2 l2 n2 hsc=>?_⟩⟩
 have hsc:st2 sc=some (scO (script.take 60)):=by
  rw [hsc];show some (MObj.list ((script.map MV.int).take 60))=_
  rw [← List.map_take];rfl
 have H2:=(H.nil (st:=st1)).new l2 n2 hsc
 l_ints
 refine ⟨by decide,Or.inl ⟨_,rfl,al fun ys st3 l3 n3 hys3=>j2 hys3 ?_⟩⟩
 have hys3:st3 ys=some (.list ((script.take 60).map MV.int)):=by
  rw [hys3];show some (MObj.list ((script.map MV.int).take 60))=_
  rw [← List.map_take]
 have hitems:(script.map MV.int).take (Int.toNat 60)=(script.take 60).map MV.int:=by
  show (script.map MV.int).take 60=_
  rw [← List.map_take]
 rw [hitems]
 refine cp (mv:=MV.int) (fun _ st'=>st'=st3) (fun x=>some (.int ((x.natAbs:Int) % 9973))) rfl (fun _ st' e=>by rw [e];exact jh hys3) ?_ ?_
 ·rintro pre x post e st' rfl K' hK'
  l_ints
  refine jeg ?_
  l_ints
  exact u9 (by decide) (hK' _ rfl)
 rintro st' rfl
 rw [oL (f:=fun x:Int=>MV.int ((x.natAbs:Int) % 9973))]
 refine cal (by rw [List.length_map];unfold jb;w_up) fun sl st4 l4 n4 hsl=>?_
 l_ints
 have hbd:∀ x∈(script.take 60).map (fun x:Int=>(x.natAbs:Int) % 9973),0≤x/\x<10000:=fun x hx=>by
  obtain ⟨y,_,rfl⟩:=List.mem_map.mp hx
  have h1:=Int.emod_nonneg (y.natAbs:Int) (show (9973:Int)≠0 by decide)
  have h2:=Int.emod_lt_of_pos (y.natAbs:Int) (show (0:Int)<9973 by decide)
  exact ⟨h1,by w_up⟩
 refine jdL (xs:=(script.take 60).map (fun x:Int=>(x.natAbs:Int) % 9973)) (by rw [hsl,List.map_map];rfl) (by rw [List.length_map];w_up) hbd ?_
 have hsum:=Zq hbd
 rw [List.length_map] at hsum
 generalize ((script.take 60).map (fun x:Int=>(x.natAbs:Int) % 9973)).sum=s0 at *
 refine Q2 ?_
 have hs0:JN (5+s0):=⟨by w_up,by w_up⟩
 l_ints
 intro dk st5 l5 n5 hdk
 have H5:H st5 [(dk,jO sc 0 (5+s0)),(sc,scO (script.take 60))]:=(H2.le (l3.trans l4)).new l5 n5 hdk
 generalize script.take 60=xs at *
 generalize 5+s0=s1 at *
 l_ints
 refine XW H5 (by decide) hs0 fun u U av k6 s6 st6 hu ho hst hpos hs6 hk6 H6=>?_
 have hN:=ho.cnt
 have hdk6:st6 dk=some (jO sc k6 s6):=H6.get (by kst_mem)
 l_ints
 refine v7 hu ho fun tl st7 beg hb l7 hts=>?_
 have hu7:=hu.le l7
 have hu7':=hu7
 obtain ⟨ud,ue,ubl,uqs,u1,u2,u3,u4,u5⟩:=hu7.qs
 l_ints
 refine Qy rfl ?_
 l_ints
 refine Xb hts hN (Xn ho hb) fun pr st8 l8 hpr=>?_
 l_ints
 refine xW (hu7.le l8) ho fun a m beg' st9 l9 na nm hb' hap=>?_
 have:=Ja hb hb';subst this
 l_ints
 refine Qy rfl ?_
 l_ints
 refine ⟨⟨Int.natCast_nonneg _,Int.ofNat_lt.mpr (by unfold jb;w_up)⟩,?_⟩
 rw [Int.toNat_natCast]
 have hpr9:=hpr.le l9
 refine lp (mv:=fun i:Nat=>MV.int (i:Int)) (fun pre ρ st'=>∀ G:ja->St->Prop,(Le st9 st'->∀ x,G [("script",some (.clist script)),("deck",some (.ref dk)),("unit",some (.ref u)),("times",some (.ref tl)),("many",some (.int (U.count:Nat))),("pairs",some (.ref pr)),("apart",some (.ref a)),("one",x),("answer",none),("alone",none),("drawn",none),("at",none),("turned",none),("of",none),("count",none)] st')->G ρ st')
   (fun _ k=>k Le.refl _) (fun _ _ _ _=>jH) ?_ ?_
 ·rintro pre one post e ρ st10 I2 K' hK'
  apply I2;intro l10 x
  have hone:one<U.count:=List.mem_range.mp (by rw [e];simp)
  l_ints
  refine ⟨⟨Int.natCast_nonneg _,Int.ofNat_lt.mpr (by unfold jb;w_up)⟩,?_⟩
  rw [Int.toNat_natCast]
  refine cp (mv:=fun i:Nat=>MV.int (i:Int)) (fun _ st'=>st'=st10) (fun x=>(none:Option MV)) rfl (fun _ _ _=>jH) ?_ ?_
  ·rintro pre1 other post1 e1 st' rfl K2 hK2
   have hoth:other<U.count:=List.mem_range.mp (by rw [e1];simp)
   obtain ⟨ad,q1,q2⟩:=hap.le l10
   l_ints
   refine ⟨Qi q1 rfl (by decide),?_⟩
   l_ints
   refine gz q1 q1 rfl (show "Apart"++"."++"are_apart" = "Apart.are_apart" by decide) ?_
   refine Xm ⟨ad,q1,q2⟩ (by rw [Vu];exact hone) (by w_up) ?_
   l_ints
   refine jdn (hpr9.le l10) ?_
   refine jgr ?_
   rw [J1 ho hb,bne_self_eq_false]
   refine Jn ?_
   exact hK2 _ rfl
  ·rintro st' rfl
   have hnil:(List.range U.count).filterMap (fun _:Nat=>(none:Option MV))=jc []:=by simp [jc]
   refine YD hnil (by decide) fun v st11 l11 n11 hv=>?_
   l_ints
   intro z st12 l12 n12 hz
   refine G5 (l12 _ _ hv) hz ?_
   refine Jn ?_
   l_ints
   exact hK' _ _ (fun _ k=>k (l10.trans (l11.trans l12)) _)
 rintro ρ st10 I2
 apply I2;intro l10 x10
 have L10:=l7.trans (l8.trans (l9.trans l10))
 l_ints
 refine vW (hu.le L10) ho fun p1 f1 beg' st11 l11 np1 nf1 hb' hp1 hf1=>?_
 have:=Ja hb hb';subst this
 have L11:=L10.trans l11
 l_ints
 refine qi (hu.le L11) ho fun p2 f2 st12 l12 np2 nf2 hp2 hf2=>?_
 have L12:=L11.trans l12
 have hkept:Kept U (tms U beg) u tl pr p1 f1 (Je U (jd U (jA U beg))) p2 f2 (yC U).length (jd U (jA U beg)) (yC U) st12 :=
  ⟨hu.le L12,(((hts.le l8).le l9).le l10).le (l11.trans l12),(hpr9.le l10).le (l11.trans l12),hp1.le l12,l12 _ _ hf1,hp2,hf2⟩
 have hdk12:=L12 _ _ hdk6
 have H12:=H6.le L12
 have hf1dk:f1≠dk:=(jw nf1 (L10 _ _ hdk6)).symm
 have hf2dk:f2≠dk:=(jw nf2 (L11 _ _ hdk6)).symm
 have htot1:=YF (ms:=jA U beg) ho
 have htot2:=qU ho
 have hcle:=gS (ms:=jA U beg) ho
 have hans:=Qu ho hst hb
 have hplain:=VM ho hst hb
 have hplen:=ZJ ho
 have hmaxc:=(ZB (ms:=jA U beg) ho).2
 have hstep:∀ pre one post,yB U=pre++one::post->pl (jd U (jA U beg)) one=xw U.count (jx U.count (tms U beg)) (jd U (jA U beg)) (jU U) (U.entry++pre) one:=fun pre one post e=>VV ho hb e
 have hlenD:(jd U (jA U beg)).length≤2000:=by
  have h1:=JT (U:=U) (ms:=jA U beg) (rs:=zn U) (d:=jR U)
  have h2:(jR U).length≤U.entry.zipIdx.length:=Nat.le_trans yS (by simp)
  rw [List.length_zipIdx] at h2
  have h3:=ho.entl
  have h4:(zn U).length=U.count:=by rw [qg ho,List.length_range]
  exact Nat.le_trans h1 (by w_up)
 generalize hD1:jd U (jA U beg)=D1 at *
 generalize hc1:Je U D1=c1 at *
 generalize hD2:yC U=D2 at *
 generalize hTS:tms U beg=TS at *
 l_ints
 refine Qy rfl ?_
 l_ints
 refine ⟨⟨Int.natCast_nonneg _,Int.ofNat_lt.mpr (by unfold jb;w_up)⟩,?_⟩
 rw [Int.toNat_natCast]
 refine cpA (mv:=fun i:Nat=>MV.int (i:Int)) (fun pre acc st'=>∃ (ps:List (Nat×Nat)) (s':Int),ps.map (·.1)=pre/\acc=ps.map (fun p:Nat×Nat=>MV.tup [.int (p.1:Nat),.int (p.2:Nat)])/\(∀ p∈ps,p.2<7)/\JN s' /\
   H st' [(dk,jO sc (k6+pre.length) s'),(sc,scO xs)]/\Kept U TS u tl pr p1 f1 c1 p2 f2 D2.length D1 D2 st')
  ⟨[],s6,rfl,rfl,by simp,hs6,H12,hkept⟩ (fun _ _ _ _=>jH) ?_ ?_
 ·rintro pre one post e acc st13 ⟨ps,s13,hps,rfl,hp7,hs13,H13,hK13⟩ K' hK'
  have hprl:pre.length≤1000:=by
   have:=congrArg List.length e
   rw [List.length_range,List.length_append,List.length_cons] at this;w_up
  have hdk13:st13 dk=some (jO sc (k6+pre.length) s13):=H13.get (by kst_mem)
  l_ints
  refine J9 (many:=7) H13 (by w_up) hs13 (by decide) fun q s14 st14 hq hs14 l14 H14=>?_
  l_ints
  refine hK' _ _ ⟨ps++[(one,q)],s14,by rw [List.map_append,hps];rfl,by rw [List.map_append];rfl,fun p hp=>?_,hs14,?_,hK13.lxo l14 hdk13 (Or.inr ⟨_,_,_,rfl⟩) hf1dk hf2dk⟩
  ·rcases List.mem_append.mp hp with hp | hp
   ·exact hp7 p hp
   ·rw [List.mem_singleton.mp hp];exact hq
  ·rw [List.length_append,List.length_singleton,← Nat.add_assoc];exact H14
 rintro acc st13 ⟨ps,s13,hps,rfl,hp7,hs13,H13,hK13⟩
 have hpsl:ps.length=U.count:=by
  have:=congrArg List.length hps
  rwa [List.length_map,List.length_range] at this
 rw [List.length_range] at H13
 refine cal (by rw [List.length_map,hpsl];unfold jb;w_up) fun lr st14 l14 n14 hlr=>?_
 l_ints
 refine jas (es:=ps.map fun p:Nat×Nat=>((p.1:Int),MV.int (p.2:Nat))) (by rw [hlr,List.map_map];rfl) fun dr st15 l15 n15 hdr=>?_
 have hdr:st15 dr=some (.idict (dP (ps.foldl (fun d p=>j5 d p.1 p.2) []))):=by rw [hdr];exact congrArg some (congrArg MObj.idict (Uq (d:=[])))
 have hT3:Total U.count (ps.foldl (fun d p=>j5 d p.1 p.2) ([]:PD)):=by
  refine ⟨fun r hr=>Option.isSome_iff_exists.mp (oj (Or.inr (by rw [hps];exact List.mem_range.mpr hr))),fun k p hp=>?_⟩
  rcases jbN hp with h | ⟨q,hq,_,h⟩
  ·cases h
  ·have:=hp7 q hq;w_up
 have hl3:(ps.foldl (fun d p=>j5 d p.1 p.2) ([]:PD)).length≤1000:=Nat.le_trans yS (by simp only [List.length_nil];w_up)
 have hKb:=hK13.le l14
 have H15:=H13.le (l14.trans l15)
 generalize ps.foldl (fun d p=>j5 d p.1 p.2) ([]:PD)=d3 at *
 have hu15:=(hKb.le l15).un
 obtain ⟨vd,ve,vbl,vqs,v1,v2,v3,v4,v5⟩:=hKb.un.qs
 have v1':=l15 _ _ v1
 have v2':=l15 _ _ v2
 have hdk13:st13 dk=some (jO sc (k6+U.count) s13):=H13.get (by kst_mem)
 have hdrdk:dk≠dr:=jw n15 (l14 _ _ hdk13)
 l_ints
 refine ⟨ve,_,rfl,v2',?_⟩
 rw [JX]
 refine lp (mv:=fun p:Nat×Nat=>MV.tup [.int (p.2:Nat),.int (p.1:Nat)]) (fun pre ρ st'=>∀ G:ja->St->Prop,(Le st14 st'->Lx [dr] st15 st'->(st' dr=some (.idict (dP (pre.foldl (fun d p=>j5 d p.1 p.2) d3))))->∀ x y,G [("script",some (.clist script)),("deck",some (.ref dk)),("unit",some (.ref u)),("times",some (.ref tl)),("many",some (.int (U.count:Nat))),("pairs",some (.ref pr)),("apart",some (.ref a)),("one",x),("answer",some (.ref p1)),("alone",some (.ref p2)),("drawn",some (.ref dr)),("at",y),("turned",none),("of",none),("count",none)] st')->G ρ st')
   (fun _ k=>k l15 Lx.refl hdr _ _) (fun pre ρ st' h=>h (fun _ t=>ji _ t) fun n0 _ _ _ _=>jh (n0 _ _ v2)) ?_ ?_
 ·rintro pre ⟨r,i⟩ post e ρ st16 I1 K' hK'
  apply I1;intro l16 x16 h16 x y
  have hprl:pre.length≤1000:=by
   have:=congrArg List.length e
   have h9:=ho.entl
   rw [List.length_zipIdx,List.length_append,List.length_cons] at this;w_up
  have hdl:=yS (xs:=pre) (d:=d3)
  refine yO rfl ?_
  l_ints
  refine vJ (f:=fun p:Nat=>.int (p:Nat)) h16 (Nat.lt_of_le_of_lt hdl (by unfold jb;w_up)) fun st17 l17 h17=>?_
  l_ints
  refine hK' _ _ (fun _ k=>k (l16.lx n15 l17) (x16.trans l17) ?_ _ _)
  rw [List.foldl_append];exact h17
 rintro ρ st16 I1
 apply I1;intro l16 x16 h16 x y
 have hT4:Total U.count (U.entry.zipIdx.foldl (fun d p=>j5 d p.1 p.2) d3):=gX hT3 fun p hp=>by
  obtain ⟨r,i⟩:=p
  have hx:=List.mk_mem_zipIdx_iff_getElem?.mp hp
  have:=(List.getElem?_eq_some_iff.mp hx).1
  have:=ho.entl
  show i<4096
  w_up
 generalize U.entry.zipIdx.foldl (fun d p=>j5 d p.1 p.2) d3=d4 at *
 have hK16:=hKb.le l16
 have H16:=H13.le (l14.trans l16)
 obtain ⟨pd1,hq1⟩:=hK16.pl1
 l_ints
 refine jaN hK16.of1 fun tr st17 l17 n17 htr=>?_
 have hK17:=hK16.le l17
 have H17:=H16.le l17
 have h17:=l17 _ _ h16
 have hq1:=l17 _ _ hq1
 have hdk17:st17 dk=some (jO sc (k6+U.count) s13):=H17.get (by kst_mem)
 have hdk16:st16 dk=some (jO sc (k6+U.count) s13):=H16.get (by kst_mem)
 have htrdk:tr≠dk:=(jw n17 hdk16).symm
 have htrdr:dr≠tr:=jw n17 h16
 have htrf1:f1≠tr:=jw n17 hK16.of1
 have htrf2:f2≠tr:=jw n17 hK16.of2
 l_ints
 refine J9 (many:=c1+1) H17 (by w_up) hs13 (by w_up) fun q s18 st18 hq hs18 l18 H18=>?_
 have hK18:=hK17.lxo l18 hdk17 (Or.inr ⟨_,_,_,rfl⟩) hf1dk hf2dk
 have h18:=lxg l18 hdrdk.symm h17
 have htr18:=lxg l18 htrdk htr
 have hdk18:st18 dk=some (jO sc (k6+U.count+1) s18):=H18.get (by kst_mem)
 l_ints
 refine J9 (many:=U.count) H18 (by w_up) hs18 hpos fun q2 s19 st19 hq2 hs19 l19 H19=>?_
 have hK19:=hK18.lxo l19 hdk18 (Or.inr ⟨_,_,_,rfl⟩) hf1dk hf2dk
 have h19:=lxg l19 hdrdk.symm h18
 have htr19:=lxg l19 htrdk htr18
 refine vJ (f:=fun p:Nat=>.int (p:Nat)) htr19 (by unfold jb;w_up) fun st20 l20 htr20=>?_
 have hK20:=hK19.lxo l20 htr19 (Or.inl ⟨_,rfl⟩) htrf1 htrf2
 have h20:=lxg l20 htrdr h19
 have hT5:Total U.count (j5 D1 q2 q):=ZM htot1 (by w_up)
 have htr20:st20 tr=some (.idict (dP (j5 D1 q2 q))):=htr20
 obtain ⟨qd1,w1⟩:=hK20.pl1
 obtain ⟨qd2,w2⟩:=hK20.pl2
 l_ints
 refine xS jH (yO rfl ?_)
 l_ints
 subst hTS
 refine vy hK20.un ho hb hK20.tms hK20.of1 htot1 fun st21 l21=>⟨_,rfl,Jn ?_⟩
 l_ints
 refine xS jH (yO rfl ?_)
 l_ints
 have hK21:=hK20.le l21
 refine vy hK21.un ho hb hK21.tms hK21.of2 htot2 fun st22 l22=>⟨_,rfl,Jn ?_⟩
 l_ints
 refine xS jH (yO rfl ?_)
 l_ints
 have hK22:=hK21.le l22
 have L22:=l21.trans l22
 refine vy (c:=7) hK22.un ho hb hK22.tms (L22 _ _ h20) hT4 fun st23 l23=>⟨_,rfl,Jn ?_⟩
 l_ints
 refine xS jH (yO rfl ?_)
 l_ints
 have hK23:=hK22.le l23
 have L23:=L22.trans l23
 refine vy hK23.un ho hb hK23.tms (L23 _ _ htr20) hT5 fun st24 l24=>⟨_,rfl,Jn ?_⟩
 have hK24:=hK23.le l24
 l_ints
 refine OI jH ?_
 l_ints
 refine y9 hK24.un ho hK24.pl1 hK24.of1 htot1 (fun beg' st25 l25 hb'=>?_) ⟨beg,hb⟩
 have:=Ja hb hb';subst this
 rw [hans]
 refine ⟨_,rfl,Jn ?_⟩
 have hK25:=hK24.le l25
 l_ints
 refine y9 hK25.un ho hK25.pl2 hK25.of2 htot2 (fun beg' st26 l26 hb'=>?_) ⟨beg,hb⟩
 have:=Ja hb hb';subst this
 rw [hplain]
 refine ⟨_,rfl,Jn ?_⟩
 have hK26:=hK25.le l26
 obtain ⟨qd3,w3⟩:=hK26.pl2
 l_ints
 refine QZ ?_
 rw [hplen,decide_eq_false (fun h:U.count≠U.count=>h rfl)]
 refine Jn ?_
 l_ints
 exact xb hK26.un ho hK26.pl1 hK26.of1 htot1 hK26.prs hpos hstep hmaxc fun st27 _=>hK st27
end Mine
set_option tactic.hygienic true
namespace Mine
open PySem PySem.W PyProof.Rows
theorem gb{α β:Type}{f g:α->Option β}:∀ {xs:List α},(∀ x∈xs,f x=g x)->xs.filterMap f=xs.filterMap g
 |[],_=>rfl
 |x::xs,h=>by rw [List.filterMap_cons,List.filterMap_cons,h x (List.mem_cons_self ..),gb fun y hy=>h y (List.mem_cons_of_mem _ hy)]
theorem oH{α:Type}:∀ {xs:List Str}{vs:List α},xs.Nodup->vs.length=xs.length->xs.filterMap (fun n=>((xs.zip vs).lookup n).map fun v=>(n,v))=xs.zip vs/\∀ n∈xs,((xs.zip vs).lookup n).isSome
 |[],_,_,_=>by simp
 |x::xs,[],_,h=>by simp at h
 |x::xs,v::vs,hn,h=>by
  have hn':=List.nodup_cons.mp hn
  obtain ⟨h1,h2⟩:=oH (xs:=xs) (vs:=vs) hn'.2 (by simpa using h)
  have hne:∀ n∈xs,(n==x)=false:=fun n hm=>by
   rw [beq_eq_false_iff_ne];exact fun e=>hn'.1 (e▸hm)
  refine ⟨?_,fun n hm=>?_⟩
  ·rw [List.zip_cons_cons,List.filterMap_cons]
   simp only [List.lookup_cons,beq_self_eq_true,Option.map_some]
   congr 1
   refine Eq.trans (gb fun n hm=>?_) h1
   rw [hne n hm]
  ·rw [List.zip_cons_cons,List.lookup_cons]
   rcases List.mem_cons.mp hm with rfl | hm
   ·simp
   ·rw [hne n hm];exact h2 n hm
theorem o8{fd:FuncData}{vals:List Value}(h1:fd.params.posonlyargs=[])(h2:fd.params.kwonlyargs=[])(h3:fd.params.vararg=none)(h4:fd.params.kwarg=none)(h5:fd.defaults=.none)
  (hn:(fd.params.args.map (·.arg)).Nodup) (hl:vals.length=fd.params.args.length):bindArgs fd ⟨vals,[]⟩=pure ((fd.params.args.map (·.arg)).zip vals):=by
 obtain ⟨hz1,hz2⟩:=oH (vs:=vals) hn (by simpa using hl)
 have hs:seqItems? .none=pure none:=rfl
 have hm:((fd.params.args.map (·.arg)).take (fd.params.args.length)).filter (fun n=>(((fd.params.args.map (·.arg)).zip vals).lookup n).isNone)=[]:=by
  refine List.filter_eq_nil_iff.mpr fun n hm=>?_
  have:=hz2 n (List.mem_of_mem_take hm)
  simp [Option.isNone_iff_eq_none,Option.isSome_iff_ne_none.mp this]
 unfold bindArgs
 simp [h1,h2,h3,h4,h5,hs,hl,hm]
 rw [List.filterMap_map] at hz1
 exact congrArg pure hz1
end Mine
namespace Mine
open PySem PySem.W PyProof.Rows
theorem vg{xs:List String}(h:xs.Nodup):(xs.map Str.ofString).Nodup:=by
 refine List.pairwise_map.mpr (h.imp fun {a b} hne e=>hne (jX e))
theorem XF{α β:Type}[BEq α]{p:β->Bool}{x:α}{v:β}:∀ {l:List (α×β)},(l.all fun q=>p q.2)=true->l.lookup x=some v->p v=true
 |[],_,h=>by cases h
 | (y,u)::l,ha,h=>by
  rw [List.all_cons,Bool.and_eq_true] at ha
  rw [List.lookup_cons] at h
  split at h
  ·cases h;exact ha.1
  ·exact XF ha.2 h
theorem fn_of{K:Frag}{h:Heap}(X:K.In h){a:Addr}{fn:Fn}(e:jar K a fn=true):∃ o fd,h.get? a=some o/\o.data=.func fd/\jec fd fn/\h.CodeRec fd.code fd.qualname/\typeIn K (.ref a)=some (.type "function")/\keepIn K (.ref a)=true:=by
 unfold jar at e
 split at e
 ·rename_i c d fd sl hl
  simp only [Bool.and_eq_true] at e
  obtain ⟨e0,e1,e2,e3,e4,e5,e6,e7,e8,e9,e10,e11,e12,e13,e14,e15,e16,e17⟩:=e
  have hc:c=.type "function":=by
   unfold jds at e0
   split at e0
   ·rw [beq_iff_eq.mp e0]
   ·cases e0
  have hdef:fd.defaults=.none:=by
   unfold G1 at e16
   split at e16
   ·assumption
   ·cases e16
  have hpar:=of_decide_eq_true e17
  have hnd:=of_decide_eq_true e10
  refine ⟨_,fd,X _ _ hl,rfl,⟨?_,of_decide_eq_true e2,by simpa using e3,by simpa using e4,List.isEmpty_iff.mp e5,beq_iff_eq.mp e6,beq_iff_eq.mp e7,fun x hx=>?_,fun x hx=>?_,hnd,fun vals hv=>?_⟩,codeRec_of X e11,?_,?_⟩
  ·split at e1
   ·rename_i b hb;exact ⟨b,hb,e1⟩
   ·cases e1
  ·have:=List.all_eq_true.mp e8 x hx
   split at this
   ·rename_i hq;exact .inl hq
   ·rename_i hq;exact .inr hq
   ·cases this
  ·have:=XF (p:=fun k=>decide (k≠NameKind.free)) e9 hx
   simp at this
  ·have hl2:fd.params.args.length=fn.params.length:=by
    have:=congrArg List.length hpar
    rwa [List.length_map,List.length_map] at this
   have:=o8 (fd:=fd) (vals:=vals) (List.isEmpty_iff.mp e12) (List.isEmpty_iff.mp e13) (Option.isNone_iff_eq_none.mp e14) (Option.isNone_iff_eq_none.mp e15) hdef (by rw [hpar];exact vg hnd) (by rw [hv,hl2])
   rw [hpar] at this;exact this
  ·have ht:typeIn K (.ref a)=Option.map (·.cls) (K.lookup a):=rfl
   rw [ht,hl,hc];rfl
  ·have ht:keepIn K (.ref a)=(match K.lookup a with
     |some ⟨_,_,.func _,_⟩=>true
     |some ⟨_,_,.cls _,_⟩=>specialIn K (.ref a) "__call__"==some (some (.builtin "type.__call__"))
     |_=>false):=rfl
   rw [ht,hl]
 ·cases e
theorem yR{v a}(e:Ym v a=true):v=some (some (.ref a)):=by
 unfold Ym at e;split at e
 ·rw [beq_iff_eq.mp e]
 ·cases e
theorem x0{v n}(e:YV v n=true):v=some (some (.builtin n)):=by
 unfold YV at e;split at e
 ·rw [beq_iff_eq.mp e]
 ·cases e
theorem zC{v}(e:Vl v=true):v=some none:=by
 unfold Vl at e;split at e
 ·rfl
 ·cases e
theorem XD{K:Frag}{c:String}{C:Addr}(e:Z0 K c C=true):nsIn K mainGlobals (Str.ofString c)=some (some (.ref C))/\(GT K C/\keepIn K (.ref C)=true)/\findIn K (.ref C) "__init__" = some (some (.ref (fa (c++".__init__")))):=by
 unfold Z0 at e
 simp only [Bool.and_eq_true] at e
 obtain ⟨e0,e1,e2,e3,e4,e5,e6,e7,e8,e9⟩:=e
 exact ⟨yR e0,⟨⟨x0 e1,zC e2,x0 e3,e4,e5,e6,fun a ha=>zC (List.all_eq_true.mp e7 a ha)⟩,e8⟩,yR e9⟩
section
variable {K:Frag}{mg mb:Str->Option Value}
theorem XI(X:K.In h₀)(G:h₀.Ns mainGlobals mg){x:String}{v:Value}(e:nsIn K mainGlobals (Str.ofString x)=some (some v)):Gl x v:=fun env hg hb A Q E s k q=>by
 refine Calls.loadGlobal_global (mg:=mg) ?_ (mg_of X G e) q
 rw [hg];exact G.keeps k
theorem vO(X:K.In h₀)(G:h₀.Ns mainGlobals mg)(B:h₀.Ns builtinsNs mb)(hb:∀ x:Str,x≠"__name__"->mb x=bootBuiltins x){x:String}{v:Value}(e:nsIn K mainGlobals (Str.ofString x)=some none)(hn:Str.ofString x≠"__name__")(hv:bootBuiltins (Str.ofString x)=some v):Gl x v:=fun env hg hbn A Q E s k q=>by
 refine Calls.loadGlobal_builtin (mg:=mg) (mb:=mb) ?_ (mg_none_of X G e) ?_ ((hb _ hn).trans hv) q
 ·rw [hg];exact G.keeps k
 ·rw [hbn];exact B.keeps k
end
end Mine
namespace Mine
open PySem PySem.W PyProof.Rows
noncomputable def OK:List (Str×Value):=opEnts.map fun e=>(Str.ofString e.1,.ref e.2.2)
theorem XU{P:Pm}{h:Heap}:∀ {xs:List String}{ys:List Value},vt xs ys=true->Vs P h (xs.map .str) ys
 |[],[],_=>rfl
 |[],_::_,e=>by cases e
 |x::xs,[],e=>by cases e
 |x::xs,y::ys,e=>by
  cases y with
  |str z t =>
   have e:(z==Str.ofString x&&vt xs ys)=true:=e
   rw [Bool.and_eq_true] at e
   exact ⟨_,_,rfl,⟨t,by rw [beq_iff_eq.mp e.1]⟩,XU e.2⟩
  |_=>cases e
theorem jdF{K:Frag}{h:Heap}{P:Pm}(X:K.In h){a:Addr}{t:List String}(e:g7 K a t=true):∃ us,h.IsTuple a us/\Vs P h (t.map .str) us.toList:=by
 unfold g7 at e
 split at e
 ·rename_i n d items m sl hl
  rw [Bool.and_eq_true] at e
  exact ⟨items,⟨_,X _ _ hl,by rw [beq_iff_eq.mp e.1],m,rfl⟩,XU e.2⟩
 ·cases e
theorem Vc:∀ {es:List (String×Tok×Addr)},Pairs (PySem.strKind prog w) (es.map (QY w.params)) (es.map fun e=>(Str.ofString e.1,Value.ref e.2.2))
 |[]=>.nil
 |e::es=>.cons (by simp [QY,PySem.strKind,Value.isStrOf]) rfl Vc
theorem Q8{x:String}{t:Tok}{a:Addr}:∀ {es:List (String×Tok×Addr)},es.lookup x=some (t,a)->valueAt (es.map fun e=>(Str.ofString e.1,Value.ref e.2.2)) (Str.ofString x)=some (.ref a)
 |[],h=>by cases h
 | (y,u)::es,h=>by
  rw [List.lookup_cons] at h
  unfold valueAt
  rw [List.map_cons,List.find?_cons]
  by_cases e:x=y
  ·subst e
   simp only [beq_self_eq_true] at h
   cases h
   simp
  ·have h1:(x==y)=false:=by rw [beq_eq_false_iff_ne];exact e
   rw [h1] at h
   have h2:decide (Str.ofString y=Str.ofString x)=false:=decide_eq_false fun q=>e (jX q).symm
   simp only [h2]
   exact Q8 h
noncomputable def jfl(x:String):Bool:=decide (Str.ofString x≠"__name__")
noncomputable def kGo:Nat->List Obj->Frag
 |_,[]=>[]
 |a,o::os=>match alive o with
  |some o'=>(a,o')::kGo (a+1) os
  |none=>kGo (a+1) os
noncomputable def kOf(h:Heap):Frag:=kGo 0 h.objs.toList
theorem jaU:∀ (os:List Obj) (n a:Nat) (o:Obj),(kGo n os).lookup a=some o->∃ i,a=n+i/\(os[i]?).bind alive=some o
 |[],_,_,_,e=>by cases e
 |x::os,n,a,o,e=>by
  have step:(kGo (n+1) os).lookup a=some o->∃ i,a=n+i/\((x::os)[i]?).bind alive=some o:=fun e=>by
   obtain ⟨i,rfl,h⟩:=jaU os (n+1) a o e
   exact ⟨i+1,by omega,by rw [List.getElem?_cons_succ];exact h⟩
  unfold kGo at e
  split at e
  ·rename_i o' ho
   rw [List.lookup_cons] at e
   split at e
   ·rename_i q;cases e;exact ⟨0,beq_iff_eq.mp q,ho⟩
   ·exact step e
  ·exact step e
theorem jfh(h:Heap):(kOf h).In h:=fun a o e=>by
 obtain ⟨i,rfl,q⟩:=jaU _ _ _ _ e
 rw [Nat.zero_add]
 unfold Heap.get?
 rw [Array.getElem?_toList] at q
 cases z:h.objs[i]? with
 |none=>rw [z] at q;cases q
 |some o' =>
  rw [z] at q
  obtain ⟨c,d,dt,sl⟩:=o'
  cases dt<;>first | exact q | cases q
end Mine
namespace Mine
open PySem PySem.W PyProof.Rows
noncomputable def hook:Hook where
 α:=Bool×Option Obj
 obs s:=(zw (kOf s.heap),(kOf s.heap).lookup 15)
 val w:=(true,some (qW w.params))
 says w h:=∃ K:Frag,K.In h/\zw K=true/\K.lookup 15=some (qW w.params)
 of _ s e:=⟨kOf s.heap,jfh _,congrArg Prod.fst e,congrArg Prod.snd e⟩
 keeps _ _ _ y k:=let ⟨K,X,a,b⟩:=y;⟨K,fun a o e=>k a o (X a o e),a,b⟩
theorem at1(w:World)(os:OsState):(jbH w os false).map (fun s=>hook.obs s.abs)=some (true,some (qW w.params)):=by kernel_rfl
theorem at2(w:World)(os:OsState):(jbH w os true).map (fun s=>hook.obs s.abs)=some (true,some (qW w.params)):=by kernel_rfl
theorem jbi{α:Type}{o:Option SharedT}{A:SharedT->Bool×α×Unit}{B:SharedT->Bool×Option Obj}{a:α}{b:Bool×Option Obj}(h:o.map A=some (true,a,()))(g:o.map B=some b) :
  o.map (fun s=>((A s).1,(A s).2.1,B s))=some (true,a,b):=by
 cases o with
 |none=>cases h
 |some s =>
  have h:A s=(true,a,()):=Option.some.inj h
  have g:B s=b:=Option.some.inj g
  show some ((A s).1,(A s).2.1,B s)=_
  rw [h,g]
theorem hd_left:LeftO PySem.Challenge.rw_rg0280_01.prog qv lo xt hook.obs hook.val 5672 true:=by
 refine jcH (M:=3000) (by decide) (by decide) jdZ jbI fun w os=>?_
 have e:=World.withFollow_self w "special-get-raises"
 change (jad stepT stepOk denote treeTable w os).map _=_
 rw [jbn]
 have h:∀ b,w.withFollow "special-get-raises" b=w->(jad PySem.W.Fast.tw10156331382660048174 PySem.W.Fast.tw6613529449190102663 PySem.W.Fast.tw11892475500146522536 PySem.W.Fast.tw14364793385576792824 (w.withFollow "special-get-raises" b) os).map (fun s=>((uj w s).1,(uj w s).2.1,hook.obs s.abs))=some (true,openGood qv lo,(true,some (qW w.params))):=fun b _=>by
  cases b
  ·exact jbi (at3 w os) (at1 w os)
  ·exact jbi (at4 w os) (at2 w os)
 have h:=h _ e
 rw [e] at h
 exact h
theorem jgz:(["len","abs","sum","any","max"].all fun b=>match bootBuiltins (Str.ofString b) with | some (.builtin c)=>c==b | _=>false)=true:=by kernel_rfl
theorem jgG:(["tuple","dict","list","range","enumerate","zip"].all fun b=>match bootBuiltins (Str.ofString b) with | some (.type c)=>c==b | _=>false)=true:=by kernel_rfl
theorem jdq:(["len","abs","sum","any","max","tuple","dict","list","range","enumerate","zip"].all jfl)=true:=by kernel_rfl
theorem JH{β:Type}{x:String}{v:β}:∀ {l:List (String×β)},l.lookup x=some v->(x,v)∈l
 |[],h=>by cases h
 | (y,u)::l,h=>by
  rw [List.lookup_cons] at h
  split at h
  ·rename_i e;cases h;rw [beq_iff_eq.mp e];exact List.mem_cons_self ..
  ·exact List.mem_cons_of_mem _ (JH h)
theorem ZW{a m b:String}(h:a++m=a++b):m=b:=by
 have:=congrArg String.toList h
 rw [String.toList_append,String.toList_append] at this
 exact String.toList_inj.mp (List.append_cancel_left this)
theorem jdT{a m b:String}(h:a++m=b):a.toList.isPrefixOf b.toList=true:=by
 rw [← h,String.toList_append]
 exact List.isPrefixOf_iff_prefix.mpr ⟨_,rfl⟩
theorem jfq{mg mb:Str->Option Value}{K:Frag}(C:zw K=true)(O:K.lookup 15=some (qW w.params))(X:K.In h₀)(G:h₀.Ns mainGlobals mg)(B:h₀.Ns builtinsNs mb)(hb:∀ x:Str,x≠"__name__"->mb x=bootBuiltins x)(hl:h₀.NoLimit):Vp K:=by
 unfold zw jgh jeV at C
 simp only [Bool.and_eq_true] at C
 obtain ⟨c1,c3,c2,⟨c4,c5,c6⟩,c7,mg,m1,m2,m3,_⟩:=C
 have hcls:∀ c C,cl c=some C->Z0 K c C=true:=fun c C hC=>List.all_eq_true.mp c3 (c,C) (JH hC)
 have hfour:∀ c C,cl c=some C->(c = "LowBlock"/\C=62)\/(c = "LowUnit"/\C=90)\/(c = "Apart"/\C=205)\/(c = "Places"/\C=252):=fun c C hC=>by
  have:=JH hC
  simp only [cads,List.mem_cons,Prod.mk.injEq,List.not_mem_nil,or_false] at this
  exact this
 refine ⟨X,hl,?_,?_,?_,?_,?_,?_,?_,?_,?_,?_⟩
 ·cases z:K.lookup mainGlobals with
  |none=>rw [z] at mg;cases mg
  |some o=>rw [X _ _ z];simp
 ·intro f fn hf
  exact fn_of X (List.all_eq_true.mp c1 (f,fn) (JH hf))
 ·intro f hf hnc
  have:=List.all_eq_true.mp c2 f hf
  rw [hnc,Bool.false_or,Bool.and_eq_true] at this
  exact ⟨Option.isSome_iff_exists.mp this.1,XI X G (yR this.2)⟩
 ·intro c hcc
  have:c = "LowBlock"\/c = "LowUnit"\/c = "Apart"\/c = "Places":=by simpa [classes] using hcc
  rcases this with rfl | rfl | rfl | rfl
  ·exact ⟨62,rfl,XI X G (XD (hcls _ _ rfl)).1⟩
  ·exact ⟨90,rfl,XI X G (XD (hcls _ _ rfl)).1⟩
  ·exact ⟨205,rfl,XI X G (XD (hcls _ _ rfl)).1⟩
  ·exact ⟨252,rfl,XI X G (XD (hcls _ _ rfl)).1⟩
 ·intro c C hC
  obtain ⟨_,h2,h3⟩:=XD (hcls c C hC)
  refine ⟨h2,?_,?_,h3⟩
  ·rcases hfour c C hC with ⟨rfl,_⟩ | ⟨rfl,_⟩ | ⟨rfl,_⟩ | ⟨rfl,_⟩<;>decide
  ·rcases hfour c C hC with ⟨rfl,_⟩ | ⟨rfl,_⟩ | ⟨rfl,_⟩ | ⟨rfl,_⟩<;>exact ⟨_,rfl⟩
 ·intro c C m hC hm
  have hm:c++"."++m = "LowUnit.fresh"\/c++"."++m = "Apart.put"\/c++"."++m = "Apart.are_apart":=by simpa [instMeths] using hm
  have bad:∀ {b:String},(c++".").toList.isPrefixOf b.toList=false->c++"."++m≠b:=fun hb e=>by rw [jdT e] at hb;cases hb
  rcases hfour c C hC with ⟨rfl,rfl⟩ | ⟨rfl,rfl⟩ | ⟨rfl,rfl⟩ | ⟨rfl,rfl⟩
  ·rcases hm with e | e | e
   ·exact absurd e (bad (by decide))
   ·exact absurd e (bad (by decide))
   ·exact absurd e (bad (by decide))
  ·rcases hm with e | e | e
   ·have:=ZW (b:="fresh") e;subst this
    exact ⟨by decide,⟨_,rfl⟩,yR m1⟩
   ·exact absurd e (bad (by decide))
   ·exact absurd e (bad (by decide))
  ·rcases hm with e | e | e
   ·exact absurd e (bad (by decide))
   ·have:=ZW (b:="put") e;subst this
    exact ⟨by decide,⟨_,rfl⟩,yR m2⟩
   ·have:=ZW (b:="are_apart") e;subst this
    exact ⟨by decide,⟨_,rfl⟩,yR m3⟩
  ·rcases hm with e | e | e
   ·exact absurd e (bad (by decide))
   ·exact absurd e (bad (by decide))
   ·exact absurd e (bad (by decide))
 ·intro x v hx
  have:=List.all_eq_true.mp c4 (x,v) (JH hx)
  unfold OH at this
  split at this
  ·rename_i t tk hq
   have:=beq_iff_eq.mp this
   subst this
   exact ⟨_,XI X G hq⟩
  ·cases this
 ·refine ⟨15,OK,XI X G (yR c5),⟨qW w.params,_,_,X _ _ O,⟨rfl,rfl,rfl⟩,rfl,?_,?_,?_⟩,?_⟩
  ·intro e he
   rw [List.mem_toArray] at he
   obtain ⟨q,_,rfl⟩:=List.mem_map.mp he
   exact ⟨Str.ofString q.1,by simp [QY,PySem.strKind,Value.isStrOf],rfl⟩
  ·show Pairs _ (opEnts.map (QY w.params)).toArray.toList OK
   exact Vc
  ·unfold OK
   rw [List.map_map]
   have:(opEnts.map fun e=>e.1).Nodup:=by decide
   have h2:=vg this
   rw [List.map_map] at h2;exact h2
  ·intro x t hx
   have:=List.all_eq_true.mp c6 (x,t) (JH hx)
   simp only at this
   split at this
   ·rename_i tk a hq
    rw [Bool.and_eq_true] at this
    obtain ⟨us,h1,h2⟩:=jdF X this.1
    exact ⟨a,us,Q8 hq,h1,h2,of_decide_eq_true this.2⟩
   ·cases this
 ·intro b hb2
  have h1:=zC (List.all_eq_true.mp c7 b (show b∈["len","abs","sum","any","max"]++["tuple","dict","list","range","enumerate","zip"] from List.mem_append_left _ hb2))
  have h2:=List.all_eq_true.mp jgz b hb2
  have h3:=List.all_eq_true.mp jdq b (show b∈["len","abs","sum","any","max"]++["tuple","dict","list","range","enumerate","zip"] from List.mem_append_left _ hb2)
  refine vO X G B hb h1 (of_decide_eq_true h3) ?_
  split at h2
  ·rename_i c hq;rw [hq,beq_iff_eq.mp h2]
  ·cases h2
 ·intro b hb2
  have h1:=zC (List.all_eq_true.mp c7 b (show b∈["len","abs","sum","any","max"]++["tuple","dict","list","range","enumerate","zip"] from List.mem_append_right _ hb2))
  have h2:=List.all_eq_true.mp jgG b hb2
  have h3:=List.all_eq_true.mp jdq b (show b∈["len","abs","sum","any","max"]++["tuple","dict","list","range","enumerate","zip"] from List.mem_append_right _ hb2)
  refine vO X G B hb h1 (of_decide_eq_true h3) ?_
  split at h2
  ·rename_i c hq;rw [hq,beq_iff_eq.mp h2]
  ·cases h2
theorem UO:Sim P0 (fun _=>none) h₀:=⟨fun _ _ e=>(nomatch e),fun _ _ _ e=>(nomatch e),fun _ _ e=>(nomatch e),fun _ _ e=>e,fun _ q=>q.elim⟩
theorem oJ{K:Frag}{a:Addr}{vs:List Value}{xs:List Int}(F:Vp K)(hL:h₀.IsList a vs.toArray)(hI:IntsAre vs xs)(hx:xs.length≤63) :
  codeAny (model prog w) callerA (.call (.ref 435) ⟨[.ref a],[]⟩) (fun r s'=>∃ h' tk,r=.ok (.ret (.bool true))/\s' = { wsx.2 with heap:=h',toks:=tk }/\∀ b o,wsx.2.heap.get? b=some o->h'.get? b=some o) wsx.2:=by
 have R:Room callerA 9:=⟨rfl,by decide +kernel,by decide +kernel⟩
 refine codeAny_mono (jfV F 9 callerA R P0 "law" (.ref 435) [.clist xs] [.ref a] (fun _=>none) wsx.2 (fun v _=>v=.bool true) (.inl ⟨by decide,rfl⟩) UO ⟨_,_,rfl,⟨a,vs.toArray,rfl,hL,hI,hL,by omega⟩,rfl⟩ (jau (n:=0) hx fun _=>rfl)) fun r s' q=>?_
 obtain ⟨u,e,mv,st',k,hu,S',G⟩:=q
 rw [k] at hu
 obtain ⟨h',tk,z⟩:=G.same
 have gk:=G.keep
 rw [z] at gk
 exact ⟨h',tk,by rw [e,show u=_ from hu],z,fun b o e=>gk b o e fun q=>q.elim fun _ q=>nomatch q.1⟩
theorem law_good:ou w wsx.2:=fun K mg mb a vs xs C O X G B hb hl hL hI hx=>oJ (jfq C O X G B hb hl) hL hI hx
theorem law_is{K:Frag}(C:zw K=true):nsIn K mainGlobals (Str.ofString "law")=some (some (.ref 435)):=by
 unfold zw jeV at C
 simp only [Bool.and_eq_true] at C
 obtain ⟨_,_,_,_,_,_,_,_,_,e⟩:=C
 exact yR e
end Mine
open PySem PySem.W PyProof.Rows
set_option maxHeartbeats 8000000 in
theorem PySem.Challenge.cw_rg0280_01_holds : PySem.Challenge.rw_rg0280_01.Holds := by
  refine holds_law Mine.said fun _ => ?_
  refine holds_open (q := Mine.qv) (loose := Mine.lo) (Xt := Mine.xt) (XP := XL Mine.qv []) (Yf := Mine.hook.obs) (Ya := Mine.hook.val) (YP := Mine.hook.says) (N := 5672) Mine.hd_left Mine.hook.of Mine.hook.keeps (fun s e => xl_of s (Bool.and_eq_true_iff.mp e).1) XL.keeps (by rfl) (by rfl) (by rfl) (fun s e => recFacts_of (Bool.and_eq_true_iff.mp e).2) (by rfl) (row_said Mine.said) (by kernel_rfl) ⟨rfl, rfl, rfl, rfl, rfl, by kernel_rfl⟩ ?hw ?hc
  case hw => w_witness2
  case hc =>
    intro w s₀ s₁ mg mb G Y fa o pm cd doc dV kV ho hd hcd hD hmg hg args vals as hpre hlay hrd hwl hlo
    obtain ⟨K, KX, KC, KO⟩ := Y
    have F := fun a vs xs => Mine.all_good Mine.law_good w s₁ K mg mb a vs xs KC KO KX G.T.g G.T.b G.T.builtins G.T.nolimit
    have hf := (mg_of KX G.T.g (Mine.law_is KC)).symm.trans hmg
    clear KC KO hcd hD ho hd hmg
    wrow_args hpre hlay hrd hwl hlo
    all_goals (first | refine callC_kw (enter_call ?_) | refine enter_call ?_ | refine callC_kw (enter_callW ?_) | refine enter_callW ?_ | w_how)
    cases hf
    rename_i xs _ _ _ _ _ _ _ a vs _ hL _ _ _ hI _ hc _
    refine codeAny_mono (F a vs xs hL hI (by omega)) fun r s' q => ?_
    obtain ⟨h', tk, rfl, rfl, hk⟩ := q
    exact GoodW.toG ⟨.inl ⟨_, .bool true, [], rfl, fun cls => by rfl, .bool _, by first | (with_unfolding_all rfl) | w_fin | kernel_rfl, fun _ => ⟨List.nodup_nil, fun _ q => by cases q⟩⟩, hk, rfl, hg⟩
