import PyProof.Rows.All
import Wide.All
import OpenK.AllK
import Wide.FinOn
import PySem.Eval
import PySem.Interp
import PySem.Table
import PyProof.AssignAttr
import PyProof.TupleIter
import PyProof.AutoIntOps
import PyProof.SliceList
import PyProof.CallRoads
import PyProof.CallStr
import PyProof.ConsumeWalk
import PyProof.CompFree
import PyProof.Draws
import PyProof.EnumMake
import PyProof.RangeFor
import PyProof.ListCopy
import PyProof.Rows.TupIter
import PyProof.Rows.TupSub
import PyProof.SetScanFacts
import PyProof.ZipIter
import PyProof.WalksPairs
import PyProof.Rows.DictMethods
import PyProof.Rows.AttrNodeAny
import PyProof.Rows.Chain
import PyProof.Rows.Nodes
import PyProof.SliceMore
import PyProof.RulesAssignMore
import PyProof.SetNew
import PyProof.Rows.SetFrom
import KE.KDictList
import KE.KSort
import KE.KRevSl
import PySem.Challenge.RW_nm0037_01
set_option Elab.async false
set_option tactic.hygienic false
set_option genSizeOf false
set_option genCtorIdx false
set_option genInjectivity false
set_option bootstrap.genMatcherCode false
set_option backward.match.sparseCases false
set_option maxRecDepth 100000
set_option linter.unusedVariables false
set_option linter.unusedSimpArgs false
namespace Mine.Internal
@[elab_as_elim] theorem rwI {α:Sort u} {a b:α} {P:α→Prop} (h:a=b) (p:P b):P a:=h ▸ p
@[elab_as_elim] theorem rwS {α:Sort u} {a b:α} {P:α→Prop} (h:a=b) (p:P a):P b:=h ▸ p
end Mine.Internal
namespace Mine.Internal
open PySem
inductive AV where
 |none
 |bool (b:Bool)
 |int (i:Int)
 |str (s:String)
 |tup (xs:List AV)
 |lst (xs:List AV)
 |obj (a:Nat) (c:Nat) (fs:List AV)
 |ref (a:Nat)
deriving Inhabited
@[reducible] noncomputable def AV.ctorIdx (x:AV):Nat:=@AV.casesOn (λx_=>Nat) x 0 (λx_=>1) (λx_=>2) (λx_=>3) (λx_=>4) (λx_=>5) (λx_ x_ x_=>6) (λx_=>7)
inductive AObj where
 |list (xs:List AV)
 |dict (es:List (Int×AV))
 |set (m:Int→Bool)
 |inst (c:Nat) (d:Nat)
 |ns (c:Nat) (fs:List AV)
@[reducible] noncomputable def AObj.ctorIdx (x:AObj):Nat:=@AObj.casesOn (λx_=>Nat) x (λx_=>0) (λx_=>1) (λx_=>2) (λx_ x_=>3) (λx_ x_=>4)
abbrev AHeap:=Nat→Option AObj
abbrev AEnv:=List (Option AV)
noncomputable def upd (H:AHeap) (a:Nat) (o:AObj):AHeap:=λb=>if b=a then some o else H b
noncomputable def del (H:AHeap) (a:Nat):AHeap:=λb=>if b=a then none else H b
theorem upd_self (H:AHeap)(a:Nat)(o:AObj):upd H a o a=some o:=if_pos rfl
theorem upd_ne {H:AHeap}{a b:Nat}(o:AObj)(n:b≠a):upd H a o b=H b:=if_neg n
theorem del_ne {H:AHeap}{a b:Nat}(n:b≠a):del H a b=H b:=if_neg n
noncomputable def gv:AEnv→Nat→Option AV:=@λy_1=>@λy_2=>match @y_1,@y_2 with
 |[],x_1=>none
 |x::x_1,0=>x
 |x_1::r,n+1=>gv r n
noncomputable def sv:AEnv→Nat→Option AV→AEnv:=@λy_1=>@λy_2=>@λy_3=>match @y_1,@y_2,@y_3 with
 |[],x_1,x_2=>[]
 |x_1::r,0,v=>v::r
 |x::r,n+1,v=>x::sv r n v
noncomputable def flds:Nat→List String:=@λy_1=>match @y_1 with
 |0=>["op","dst","args","more","is_volatile","line"]
 |1=>["number","steps","end"]
 |2=>["name","params","is_static","slots","blocks","registers","has_value"]
 |x_1=>[]
noncomputable def globN:Nat→String:=@λy_1=>match @y_1 with
 |0=>"MASK" | 1=>"ROUND" | 2=>"_law_EDGES" | 3=>"_law_BASES" | _=>"_law_SIZES"
noncomputable def globV:Nat→AV:=@λy_1=>match @y_1 with
 |0=>.int 4294967295
 |1=>.int 4294967296
 |2=>.tup [.int 7,.int 0,.int 1,.int 255,.int 65535,.int 2147483648,.int 4294967295,.int 40503]
 |3=>.tup [.int 4096,.int 4104,.int 4108,.int 4112]
 |x_1=>.tup [.int 8,.int 4,.int 4,.int 2]
noncomputable def dictN:Nat→String:=@λy_1=>match @y_1 with
 |0=>"BINARY" | 1=>"UNARY" | 2=>"ENDS" | 3=>"EFFECTS" | 4=>"DIVISIONS" | 5=>"CALLS" | _=>"SELDOM_FREE"
noncomputable def dictK:Nat→List String:=@λy_1=>match @y_1 with
 |0=>["add","sub","mul","div","divu","rem","remu","and","or","xor","shl","shr","sar","lt","ltu","eq","ne"]
 |1=>["copy","neg","not","sx8","sx16","zx8","zx16"]
 |2=>["jump","branch","table","give"]
 |3=>["store","move","call","callreg"]
 |4=>["div","divu","rem","remu"]
 |5=>["call","callreg"]
 |x_1=>["load","store","move","call","callreg","div","divu","rem","remu"]
set_option genCtorIdx true in
inductive Bin where|add|sub|mul|div|mod|pow|xor
deriving DecidableEq
set_option genCtorIdx true in
inductive Cm where|eq|ne|lt|le|gt|ge|is|isnt|isin|notin
deriving DecidableEq
inductive Tg where
 |one (n:Nat)
 |many (ns:List Nat)
@[reducible] noncomputable def Tg.ctorIdx (x:Tg):Nat:=@Tg.casesOn (λx_=>Nat) x (λx_=>0) (λx_=>1)
set_option genCtorIdx true in
inductive Sk where|plain|range|enum|zip
deriving DecidableEq
inductive E where
 |dead
 |v (n:Nat)
 |none|bool (b:Bool)|int (i:Int)|str (s:String)
 |glob (k:Nat)
 |attr (e:E) (c k:Nat)
 |idx (e i:E)
 |revs (e:E)
 |upto (e:E) (n:Nat)
 |bin (op:Bin) (a b:E)
 |cmp (op:Cm) (a b:E)
 |cmp2 (o1 o2:Cm) (a b c:E)
 |eqNil (e:E)
 |setNe (a b:E)|setLe (a b:E)
 |inG (neg:Bool) (e:E) (k:Nat)
 |not (e:E)
 |and (a b:E)|or (a b:E)
 |ife (t a b:E)
 |tup (es:List E)
 |lst (frz:Bool) (es:List E)
 |dict0
 |set0
 |set1 (i:Int)
 |setOf (e:E)
 |call (f:Nat) (es:List E)
 |mk (c:Nat) (es:List E)
 |len (e:E)
 |listOf (e:E)
 |sorted (e:E)
 |any (e:E)|all (e:E)
 |isBool (e:E)
 |strOf (e:E)
 |append (o e:E)
 |pop (o:E)
 |get (o k d:E)
 |dpop (o k:E)
 |add (o e:E)
 |discard (o e:E)
 |count (o e:E)
 |comp (frz:Bool) (elt:E) (t:Tg) (k:Sk) (es:List E) (tests:List E) (caps:List Nat)
@[reducible] noncomputable def E.ctorIdx (x:E):Nat:=@E.casesOn (λx_=>Nat) x 0 (λx_=>1) 2 (λx_=>3) (λx_=>4) (λx_=>5) (λx_=>6) (λx_ x_ x_=>7) (λx_ x_=>8) (λx_=>9) (λx_ x_=>10) (λx_ x_ x_=>11) (λx_ x_ x_=>12) (λx_ x_ x_ x_ x_=>13) (λx_=>14) (λx_ x_=>15) (λx_ x_=>16) (λx_ x_ x_=>17) (λx_=>18) (λx_ x_=>19) (λx_ x_=>20) (λx_ x_ x_=>21) (λx_=>22) (λx_ x_=>23) 24 25 (λx_=>26) (λx_=>27) (λx_ x_=>28) (λx_ x_=>29) (λx_=>30) (λx_=>31) (λx_=>32) (λx_=>33) (λx_=>34) (λx_=>35) (λx_=>36) (λx_ x_=>37) (λx_=>38) (λx_ x_ x_=>39) (λx_ x_=>40) (λx_ x_=>41) (λx_ x_=>42) (λx_ x_=>43) (λx_ x_ x_ x_ x_ x_ x_=>44)
inductive S where
 |dead
 |ghost
 |asg (n:Nat) (e:E)
 |asgT (ns:List Nat) (e:E)
 |asgA (o:E) (c k:Nat) (e:E)
 |asgI (o i:E) (e:E)
 |augN (n:Nat) (op:Bin) (e:E)
 |augI (o i:E) (op:Bin) (e:E)
 |augU (n:Nat) (e:E)
 |ex (e:E)
 |iff (t:E) (a b:List S)
 |whl (t:E) (b:List S)
 |forr (t:Tg) (k:Sk) (es:List E) (b:List S)
 |ret (e:E)
 |cont
 |tryp (b:List S)
@[reducible] noncomputable def S.ctorIdx (x:S):Nat:=@S.casesOn (λx_=>Nat) x 0 1 (λx_ x_=>2) (λx_ x_=>3) (λx_ x_ x_ x_=>4) (λx_ x_ x_=>5) (λx_ x_ x_=>6) (λx_ x_ x_ x_=>7) (λx_ x_=>8) (λx_=>9) (λx_ x_ x_=>10) (λx_ x_=>11) (λx_ x_ x_ x_=>12) (λx_=>13) 14 (λx_=>15)
inductive Fl where
 |nx|ct|rt (v:AV)
@[reducible] noncomputable def Fl.ctorIdx (x:Fl):Nat:=@Fl.casesOn (λx_=>Nat) x 0 1 (λx_=>2)
noncomputable def okk {α:Type} (k:α→Prop) (o:Option α):Prop:=match o with
 |some x=>k x
 |Option.none=>False
abbrev ok {α:Type}(o:Option α)(k:α→Prop):Prop:=okk k o
@[simp] theorem ok_some {α:Type}(x:α)(k:α→Prop):ok (some x) k=k x:=rfl
theorem ok_ex {α:Type}{o:Option α}{k:α→Prop}(h:ok o k):∃ x,o=some x∧k x:=by
 cases o with
 |none=>exact h.elim
 |some x=>exact⟨x,rfl,h⟩
theorem ok_mk {α:Type}{o:Option α}{k:α→Prop}{x:α}(e:o=some x)(h:k x):ok o k:=by subst e;exact h
theorem bcase {b:Bool}{P:Prop}(f:b=false→P)(t:b=true→P):P:=by cases b with|false=>exact f rfl|true=>exact t rfl
theorem ocase {α:Type}{o:Option α}{P:Prop}(n:o=none→P)(s:∀ x,o=some x→P):P:=by cases o with|none=>exact n rfl|some x=>exact s x rfl
mutual
noncomputable def veq:AV→AV→Bool:=@λy_1=>@λy_2=>match @y_1,@y_2 with
 |.none,.none=>true
 |.bool a,.bool b=>a==b
 |.bool a,.int j=>(if a then 1 else 0)==j
 |.int i,.bool b=>i==(if b then 1 else 0)
 |.int a,.int b=>a==b
 |.str a,.str b=>a==b
 |.tup xs,.tup ys=>veqs xs ys
 |.lst xs,.lst ys=>veqs xs ys
 |x_1,x_2=>false
noncomputable def veqs:List AV→List AV→Bool:=@λy_1=>@λy_2=>match @y_1,@y_2 with
 |[],[]=>true
 |x::xs,y::ys=>veq x y&&veqs xs ys
 |x_1,x_2=>false
end
noncomputable def plain0:AV→Bool:=@λy_1=>match @y_1 with
 |.none|.bool _|.int _|.str _=>true
 |x_1=>false
noncomputable def plainS (p:AV→Bool):AV→Bool:=@λy_1=>match @y_1 with
 |.tup xs=>xs.all p
 |.lst xs=>xs.all p
 |v=>plain0 v
noncomputable def plainD:Nat→AV→Bool:=@λy_1=>@λy_2=>match @y_1,@y_2 with
 |0,v=>plain0 v
 |n+1,v=>plainS (plainD n) v
theorem none_some {α:Type}{a:α}{p:Prop}(h:Option.none=some a):p:=nomatch h
noncomputable def derefO (a:Nat):Option AObj→AV:=@λy_1=>match @y_1 with
 |some (.list xs)=>.lst xs
 |x_1=>.ref a
noncomputable def derefL (H:AHeap):AV→AV:=@λy_1=>match @y_1 with
 |.ref a=>derefO a (H a)
 |v=>v
noncomputable def truthO:Option AObj→Option Bool:=@λy_1=>match @y_1 with
 |some (.list xs)=>some (!xs.isEmpty)
 |some (.dict es)=>some (!es.isEmpty)
 |x_1=>none
noncomputable def truth (H:AHeap):AV→Option Bool:=@λy_1=>match @y_1 with
 |.none=>some false
 |.bool b=>some b
 |.int i=>some (i != 0)
 |.lst xs=>some (!xs.isEmpty)
 |.ref a=>truthO (H a)
 |x_1=>none
noncomputable def atIx (xs:List AV) (i:Int):Option AV:=
 if 0≤i then xs[i.toNat]? else if i = -1 then xs.getLast? else none
noncomputable def getIxO (i:Int):Option AObj→Option AV:=@λy_1=>match @y_1 with
 |some (.list xs)=>atIx xs i
 |some (.dict es)=>es.lookup i
 |x_1=>none
noncomputable def getIxI (H:AHeap) (i:Int):AV→Option AV:=@λy_1=>match @y_1 with
 |.tup xs=>atIx xs i
 |.lst xs=>atIx xs i
 |.ref a=>getIxO i (H a)
 |x_1=>none
noncomputable def getIx (H:AHeap) (x:AV):AV→Option AV:=@λy_1=>match @y_1 with
 |.int i=>getIxI H i x
 |x_1=>none
noncomputable def lenO:Option AObj→Option Int:=@λy_1=>match @y_1 with
 |some (.list xs)=>some xs.length
 |x_1=>none
noncomputable def lenOf (H:AHeap):AV→Option Int:=@λy_1=>match @y_1 with
 |.tup xs=>some xs.length
 |.lst xs=>some xs.length
 |.ref a=>lenO (H a)
 |x_1=>none
noncomputable def smallInt (i:Int):Bool:=decide (i.natAbs < 2 ^ 64)
noncomputable def opInt:Bin→Int→Int→Option AV:=@λy_1=>@λy_2=>@λy_3=>match @y_1,@y_2,@y_3 with
 |.add,a,b=>some (.int (a+b))
 |.sub,a,b=>some (.int (a - b))
 |.mul,a,b=>if smallInt a||smallInt b then some (.int (a * b)) else none
 |.div,a,b=>if b != 0&&smallInt b then some (.int (a.fdiv b)) else none
 |.mod,a,b=>if b != 0 then some (.int (a.fmod b)) else none
 |.pow,a,b=>if smallInt a&&decide (0≤b)&&decide (b≤64) then some (.int (a ^ b.toNat)) else none
 |.xor,a,b=>some (.int (Builtin.bitXor a b))
noncomputable def isAdd:Bin→Bool:=@λy_1=>match @y_1 with
 |.add=>true
 |x_1=>false
noncomputable def opBin (op:Bin) (x y:AV):Option AV:=match x,y with
 |.int a,.int b=>opInt op a b
 |.str a,.str b=>if isAdd op&&decide (a.length+b.length≤1000) then some (.str (a++b)) else none
 |.lst a,.lst b=>if isAdd op&&decide (a.length+b.length≤100000) then some (.lst (a++b)) else none
 |_,_=>none
noncomputable def opAug (op:Bin):AV→AV→Option AV:=@λy_1=>@λy_2=>match @y_1,@y_2 with
 |.int a,.int b=>match op with
  |.add=>some (.int (a+b))
  |_=>none
 |x_1,x_2=>none
noncomputable def opIs:AV→AV→Option Bool:=@λy_1=>@λy_2=>match @y_1,@y_2 with
 |.none,.none=>some true
 |.ref x_1,.none=>some false
 |.obj ..,.none=>some false
 |.obj a ..,.obj b ..=>some (a==b)
 |x_1,x_2=>none
noncomputable def anyEq (x:AV) (xs:List AV):Option Bool:=if plainD 20 x&&xs.all (plainD 20) then some (xs.any λy=>veq y x) else none
noncomputable def intOf:AV→Option Int:=@λy_1=>match @y_1 with
 |.int i=>some i
 |x_1=>none
noncomputable def opInO (x:AV):Option AObj→Option Bool:=@λy_1=>match @y_1 with
 |some (.list xs)=>anyEq x xs
 |some (.dict es)=>(intOf x).map λi=>(es.lookup i).isSome
 |some (.set m)=>(intOf x).map m
 |x_1=>none
noncomputable def opIn (H:AHeap) (x c:AV):Option Bool:=
 match c with
 |.tup xs=>anyEq x xs
 |.lst xs=>anyEq x xs
 |.ref a=>opInO x (H a)
 |_=>none
noncomputable def opEq (H:AHeap) (a b:AV):Option Bool:=if plainD 20 (derefL H a)&&plainD 20 (derefL H b) then some (veq (derefL H a) (derefL H b)) else none
noncomputable def opOrd:Cm→Int→Int→Option Bool:=@λy_1=>@λy_2=>@λy_3=>match @y_1,@y_2,@y_3 with
 |.lt,a,b=>some (decide (a < b))
 |.le,a,b=>some (decide (a≤b))
 |.gt,a,b=>some (decide (a > b))
 |.ge,a,b=>some (decide (a ≥ b))
 |x_1,x_2,x_3=>none
noncomputable def ordOf (op:Cm):AV→AV→Option Bool:=@λy_1=>@λy_2=>match @y_1,@y_2 with
 |.int a,.int b=>opOrd op a b
 |x_1,x_2=>none
noncomputable def opCm (H:AHeap) (op:Cm) (a b:AV):Option Bool:=match op with
 |.eq=>opEq H a b
 |.ne=>(opEq H a b).map (!·)
 |.is=>opIs a b
 |.isnt=>(opIs a b).map (!·)
 |.isin=>opIn H a b
 |.notin=>(opIn H a b).map (!·)
 |op=>ordOf op a b
noncomputable def nsO (c k c':Nat):Option AObj→Option AV:=@λy_1=>match @y_1 with
 |some (.ns c2 fs)=>if c'=c∧c2=c then fs[k]? else none
 |x_1=>none
noncomputable def instO (H:AHeap) (c k:Nat):Option AObj→Option AV:=@λy_1=>match @y_1 with
 |some (.inst c' d)=>nsO c k c' (H d)
 |x_1=>none
noncomputable def attrOf (H:AHeap) (c k:Nat):AV→Option AV:=@λy_1=>match @y_1 with
 |.obj x_1 c' fs=>if c'=c then fs[k]? else none
 |.ref a=>instO H c k (H a)
 |x_1=>none
noncomputable def lstO (a:Nat):Option AObj→Option (List AV×Option Nat):=@λy_1=>match @y_1 with
 |some (.list xs)=>some (xs,some a)
 |x_1=>none
noncomputable def itemsOf (H:AHeap):AV→Option (List AV×Option Nat):=@λy_1=>match @y_1 with
 |.tup xs=>some (xs,none)
 |.lst xs=>some (xs,none)
 |.ref a=>lstO a (H a)
 |x_1=>none
noncomputable def lstOf (H:AHeap):AV→Option (List AV×Option Nat):=@λy_1=>match @y_1 with
 |.lst xs=>some (xs,none)
 |.ref a=>lstO a (H a)
 |x_1=>none
noncomputable def guardOf (xs:List AV):Option Nat→AHeap→Prop:=@λy_1=>@λy_2=>match @y_1,@y_2 with
 |none,x_1=>True
 |some a,H=>H a=some (.list xs)
noncomputable def enumFrom (n:Int):List AV→List AV:=@λy_1=>match @y_1 with
 |[]=>[]
 |x::xs=>.tup [.int n,x]::enumFrom (n+1) xs
noncomputable def zipL:List AV→List AV→List AV:=@λy_1=>@λy_2=>match @y_1,@y_2 with
 |x::xs,y::ys=>.tup [x,y]::zipL xs ys
 |x_1,x_2=>[]
noncomputable def rangeL (a:Int):Nat→List AV:=@λy_1=>match @y_1 with
 |0=>[]
 |n+1=>.int a::rangeL (a+1) n
noncomputable def srcOf (H:AHeap):Sk→List AV→Option (List AV×Option Nat):=@λy_1=>@λy_2=>match @y_1,@y_2 with
 |.plain,[v]=>lstOf H v
 |.range,[.int n]=>if 0≤n∧n < 2 ^ 20 then some (rangeL 0 n.toNat,none) else none
 |.range,[.int a,.int b]=>if 0≤a∧a < 2 ^ 20∧0≤b∧b < 2 ^ 20 then some (rangeL a (b - a).toNat,none) else none
 |.enum,[.tup xs]=>some (enumFrom 0 xs,none)
 |.enum,[.lst xs]=>some (enumFrom 0 xs,none)
 |.zip,[.lst xs,.lst ys]=>some (zipL xs ys,none)
 |x_1,x_2=>none
noncomputable def unpackOf (H:AHeap) (n:Nat) (v:AV):Option (List AV):=
 match itemsOf H v with
 |some (xs,_)=>if xs.length=n then some xs else none
 |none=>none
noncomputable def svs:AEnv→List Nat→List AV→AEnv:=@λy_1=>@λy_2=>@λy_3=>match @y_1,@y_2,@y_3 with
 |ρ,n::ns,x::xs=>svs (sv ρ n (some x)) ns xs
 |ρ,x_1,x_2=>ρ
noncomputable def bindT (H:AHeap) (ρ:AEnv):Tg→AV→Option AEnv:=@λy_1=>@λy_2=>match @y_1,@y_2 with
 |.one n,x=>some (sv ρ n (some x))
 |.many ns,x=>(unpackOf H ns.length x).map (svs ρ ns)
noncomputable def mask (caps:List Nat):Nat→AEnv→AEnv:=@λy_1=>@λy_2=>match @y_1,@y_2 with
 |x_1,[]=>[]
 |i,x::r=>(if caps.contains i then x else none)::mask caps (i+1) r
noncomputable def forL (g:AHeap→Prop) (step:AV→AEnv→AHeap→(Fl→AEnv→AHeap→Prop)→Prop) :
  List AV→AEnv→AHeap→(Fl→AEnv→AHeap→Prop)→Prop:=@λy_1=>@λy_2=>@λy_3=>@λy_4=>match @y_1,@y_2,@y_3,@y_4 with
 |[],ρ,H,Q=>Q .nx ρ H
 |x::xs,ρ,H,Q=>step x ρ H λf ρ' H'=>match f with
  |.rt v=>Q (.rt v) ρ' H'
  |_=>g H'∧forL g step xs ρ' H' Q
noncomputable def compL (g:AHeap→Prop) (step:AV→AHeap→(Option AV→AHeap→Prop)→Prop) :
  List AV→AHeap→(List AV→AHeap→Prop)→Prop:=@λy_1=>@λy_2=>@λy_3=>match @y_1,@y_2,@y_3 with
 |[],H,Q=>Q [] H
 |x::xs,H,Q=>step x H λr H'=>g H'∧compL g step xs H' λys H''=>Q (match r with|some y=>y::ys|none=>ys) H''
theorem compL_nil {g:AHeap→Prop}{step:AV→AHeap→(Option AV→AHeap→Prop)→Prop}{H:AHeap}{Q:List AV→AHeap→Prop}:compL g step [] H Q=Q [] H:=rfl
noncomputable def newL (frz:Bool) (xs:List AV) (H:AHeap) (Q:AV→AHeap→Prop):Prop:=
 match frz with
 |true=>Q (.lst xs) H
 |false=>∀ a,H a=none→Q (.ref a) (upd H a (.list xs))
abbrev Oracle:=Nat→List AV→AHeap→(AV→AHeap→Prop)→Prop
noncomputable def intsOf:List AV→Option (List Int):=@λy_1=>match @y_1 with
 |[]=>some []
 |.int i::r=>(intsOf r).map (i :: ·)
 |x_1=>none
noncomputable def boolsOf:List AV→Option (List Bool):=@λy_1=>match @y_1 with
 |[]=>some []
 |.bool i::r=>(boolsOf r).map (i :: ·)
 |x_1=>none
noncomputable def setM (xs:List Int):Int→Bool:=λi=>xs.contains i
inductive opAppend (H:AHeap)(o x:AV)(Q:AV→AHeap→Prop):Prop
 |mk (a:Nat) (xs:List AV):o=.ref a→H a=some (.list xs)→xs.length≤100000→Q .none (upd H a (.list (xs++[x])))→opAppend H o x Q
inductive opPop (H:AHeap)(o:AV)(Q:AV→AHeap→Prop):Prop
 |mk (a:Nat) (xs:List AV) (x:AV):o=.ref a→H a=some (.list (xs++[x]))→xs.length≤100000→Q x (upd H a (.list xs))→opPop H o Q
inductive opGet (H:AHeap)(o k d:AV)(Q:AV→AHeap→Prop):Prop
 |mk (a:Nat) (es:List (Int×AV)) (i:Int):o=.ref a→H a=some (.dict es)→k=.int i→Q ((es.lookup i).getD d) H→opGet H o k d Q
inductive opDpop (H:AHeap)(o k:AV)(Q:AV→AHeap→Prop):Prop
 |mk (a:Nat) (es:List (Int×AV)) (i:Int):o=.ref a→H a=some (.dict es)→k=.int i→Q ((es.lookup i).getD .none) (upd H a (.dict (es.filter λp=>p.1 != i)))→opDpop H o k Q
inductive opAdd (H:AHeap)(o k:AV)(Q:AV→AHeap→Prop):Prop
 |mk (a:Nat) (m:Int→Bool) (i:Int):o=.ref a→H a=some (.set m)→k=.int i→0≤i→i < 32→Q .none (upd H a (.set λj=>m j||j==i))→opAdd H o k Q
inductive opDiscard (H:AHeap)(o k:AV)(Q:AV→AHeap→Prop):Prop
 |mk (a:Nat) (m:Int→Bool) (i:Int):o=.ref a→H a=some (.set m)→k=.int i→Q .none (upd H a (.set λj=>m j&&j != i))→opDiscard H o k Q
noncomputable def setO:Option AObj→Option (Int→Bool):=@λy_1=>match @y_1 with
 |some (.set m)=>some m
 |x_1=>none
noncomputable def setL:Option (List Int)→Option (Int→Bool):=@λy_1=>match @y_1 with
 |some is=>if is.all (λi=>decide (0≤i)&&decide (i < 32))&&decide (is.length < 1000) && !is.isEmpty then some (setM is) else none
 |none=>none
noncomputable def setOfV (H:AHeap):AV→Option (Int→Bool):=@λy_1=>match @y_1 with
 |.lst xs=>setL (intsOf xs)
 |.ref a=>setO (H a)
 |x_1=>none
noncomputable def asSet (H:AHeap):AV→Option (Int→Bool):=@λy_1=>match @y_1 with
 |.ref a=>setO (H a)
 |x_1=>none
noncomputable def putE (es:List (Int×AV)) (i:Int) (v:AV):List (Int×AV):=
 match es with
 |[]=>[(i,v)]
 |(j,w)::r=>if j=i then (j,v)::r else (j,w)::putE r i v
theorem putE_c {j i:Int}{w v:AV}{r:List (Int×AV)}:putE ((j,w)::r) i v=if j=i then (j,v)::r else (j,w)::putE r i v:=rfl
noncomputable def isLi (H:AHeap) (x:AV):Prop:=∃ a xs,x=.ref a∧H a=some (.list xs)
noncomputable def isDi (H:AHeap) (x:AV):Prop:=∃ a es,x=.ref a∧H a=some (.dict es)
noncomputable def isSe (H:AHeap) (x:AV):Prop:=∃ a m,x=.ref a∧H a=some (.set m)
inductive opSetI (H:AHeap)(o i v:AV)(Q:AHeap→Prop):Prop
 |mk (a:Nat) (k:Int):o=.ref a→i=.int k →
  ((∃ xs,H a=some (.list xs)∧0≤k∧k < (xs.length:Int)∧xs.length≤100000∧Q (upd H a (.list (xs.set k.toNat v)))) ∨
   (∃ es,H a=some (.dict es)∧es.length≤100000∧Q (upd H a (.dict (putE es k v)))))→opSetI H o i v Q
noncomputable def putF (fs:List AV) (k:Nat) (v:AV):List AV:=if k < fs.length then fs.set k v else fs++[v]
inductive opSetA (H:AHeap)(o:AV)(c k:Nat)(v:AV)(Q:AHeap→Prop):Prop
 |mk (a d:Nat) (fs:List AV):o=.ref a→H a=some (.inst c d)→H d=some (.ns c fs)→k≤fs.length→Q (upd H d (.ns c (putF fs k v)))→opSetA H o c k v Q
noncomputable def insertI (i:Int):List Int→List Int:=@λy_1=>match @y_1 with
 |[]=>[i]
 |j::r=>if i≤j then i::j::r else j::insertI i r
noncomputable def sortI:List Int→List Int:=@λy_1=>match @y_1 with
 |[]=>[]
 |i::r=>insertI i (sortI r)
noncomputable def sortedO:Option AObj→Option (List AV):=@λy_1=>match @y_1 with
 |some (.dict es)=>if es.length < 64 then some ((sortI (es.map (·.1))).map .int) else none
 |x_1=>none
noncomputable def sortedOf (H:AHeap):AV→Option (List AV):=@λy_1=>match @y_1 with
 |.ref a=>sortedO (H a)
 |x_1=>none
noncomputable def initIx (c:Nat):Nat:=46+c
noncomputable def opMk (C:Oracle) (P:Nat→Prop) (c:Nat) (vs:List AV) (H:AHeap) (Q:AV→AHeap→Prop):Prop:=
 c < 3∧∀ a d,H a=none→H d=none→a≠d→¬ P a→C (initIx c) (.ref a::vs) (upd (upd H d (.ns c [])) a (.inst c d)) λv H'=>v=.none∧Q (.ref a) H'
noncomputable def objAts (ρ:AEnv) (a:Nat):Prop:=∃ n c fs,gv ρ n=some (.obj a c fs)
noncomputable def isBoolV:AV→Option Bool:=@λy_1=>match @y_1 with
 |.bool x_1=>some true
 |x_1=>none
noncomputable def strKeysHas (ks:List String):AV→Option Bool:=@λy_1=>match @y_1 with
 |.str s=>some (ks.contains s)
 |x_1=>none
mutual
noncomputable def wE (C:Oracle):E→AEnv→AHeap→(AV→AHeap→Prop)→Prop:=@λy_1=>@λy_2=>@λy_3=>@λy_4=>match @y_1,@y_2,@y_3,@y_4 with
 |.dead,x_1,x_2,x_3=>False
 |.v n,ρ,H,Q=>ok (gv ρ n) λx=>Q x H
 |.none,x_1,H,Q=>Q .none H
 |.bool b,x_1,H,Q=>Q (.bool b) H
 |.int i,x_1,H,Q=>Q (.int i) H
 |.str s,x_1,H,Q=>Q (.str s) H
 |.glob k,x_1,H,Q=>Q (globV k) H
 |.attr e c k,ρ,H,Q=>wE C e ρ H λx H=>ok (attrOf H c k x) λr=>Q r H
 |.idx e i,ρ,H,Q=>wE C e ρ H λx H=>wE C i ρ H λj H=>ok (getIx H x j) λr=>Q r H
 |.revs e,ρ,H,Q=>wE C e ρ H λx H=>ok (lstOf H x) λp=>Q (.lst p.1.reverse) H
 |.upto e n,ρ,H,Q=>wE C e ρ H λx H=>ok (lstOf H x) λp=>Q (.lst (p.1.take n)) H
 |.bin op a b,ρ,H,Q=>wE C a ρ H λx H=>wE C b ρ H λy H=>ok (opBin op x y) λr=>Q r H
 |.cmp op a b,ρ,H,Q=>wE C a ρ H λx H=>wE C b ρ H λy H=>ok (opCm H op x y) λr=>Q (.bool r) H
 |.cmp2 o1 o2 a b c,ρ,H,Q=>wE C a ρ H λx H=>wE C b ρ H λy H=>ok (opCm H o1 x y) λr=>
   match r with
   |true=>wE C c ρ H λz H=>ok (opCm H o2 y z) λr=>Q (.bool r) H
   |false=>Q (.bool false) H
 |.eqNil e,ρ,H,Q=>wE C e ρ H λx H=>ok (lstOf H x) λp=>Q (.bool p.1.isEmpty) H
 |.setNe a b,ρ,H,Q=>wE C a ρ H λx H=>wE C b ρ H λy H=>ok (asSet H x) λm=>ok (asSet H y) λn=>
   ∀ r:Bool,(r=true↔m≠n)→Q (.bool r) H
 |.setLe a b,ρ,H,Q=>wE C a ρ H λx H=>wE C b ρ H λy H=>ok (asSet H x) λm=>ok (asSet H y) λn=>
   ∀ r:Bool,(r=true↔∀ i,m i=true→n i=true)→Q (.bool r) H
 |.inG neg e k,ρ,H,Q=>wE C e ρ H λx H=>ok (strKeysHas (dictK k) x) λr=>Q (.bool (r != neg)) H
 |.not e,ρ,H,Q=>wE C e ρ H λx H=>ok (truth H x) λt=>Q (.bool !t) H
 |.and a b,ρ,H,Q=>wE C a ρ H λx H=>ok (truth H x) λt=>match t with
   |true=>wE C b ρ H Q
   |false=>Q x H
 |.or a b,ρ,H,Q=>wE C a ρ H λx H=>ok (truth H x) λt=>match t with
   |true=>Q x H
   |false=>wE C b ρ H Q
 |.ife t a b,ρ,H,Q=>wE C t ρ H λx H=>ok (truth H x) λt=>match t with
   |true=>wE C a ρ H Q
   |false=>wE C b ρ H Q
 |.tup es,ρ,H,Q=>wEs C es ρ H λxs H=>Q (.tup xs) H
 |.lst frz es,ρ,H,Q=>wEs C es ρ H λxs H=>newL frz xs H Q
 |.dict0,x_1,H,Q=>∀ a,H a=none→Q (.ref a) (upd H a (.dict []))
 |.set0,x_1,H,Q=>∀ a,H a=none→Q (.ref a) (upd H a (.set λx_=>false))
 |.set1 i,x_1,H,Q=>0≤i∧i < 32∧∀ a,H a=none→Q (.ref a) (upd H a (.set λj=>j==i))
 |.setOf e,ρ,H,Q=>wE C e ρ H λx H=>ok (setOfV H x) λm=>∀ a,H a=none→Q (.ref a) (upd H a (.set m))
 |.call f es,ρ,H,Q=>wEs C es ρ H λxs H=>C f xs H Q
 |.mk c es,ρ,H,Q=>wEs C es ρ H λxs H=>opMk C (objAts ρ) c xs H Q
 |.len e,ρ,H,Q=>wE C e ρ H λx H=>ok (lenOf H x) λr=>Q (.int r) H
 |.listOf e,ρ,H,Q=>wE C e ρ H λx H=>ok (lstOf H x) λp=>Q (.lst p.1) H
 |.sorted e,ρ,H,Q=>wE C e ρ H λx H=>ok (sortedOf H x) λr=>Q (.lst r) H
 |.any e,ρ,H,Q=>wE C e ρ H λx H=>ok (lstOf H x) λp=>ok (boolsOf p.1) λbs=>Q (.bool (bs.any id)) H
 |.all e,ρ,H,Q=>wE C e ρ H λx H=>ok (lstOf H x) λp=>ok (boolsOf p.1) λbs=>Q (.bool (bs.all id)) H
 |.isBool e,ρ,H,Q=>wE C e ρ H λx H=>ok (isBoolV x) λr=>Q (.bool r) H
 |.strOf e,ρ,H,Q=>wE C e ρ H λx H=>∃ i,x=.int i∧0≤i∧i < 1000∧Q (.str (toString i)) H
 |.append o e,ρ,H,Q=>wE C o ρ H λx H=>isLi H x∧wE C e ρ H λy H=>opAppend H x y Q
 |.pop o,ρ,H,Q=>wE C o ρ H λx H=>isLi H x∧opPop H x Q
 |.get o k d,ρ,H,Q=>wE C o ρ H λx H=>isDi H x∧wE C k ρ H λy H=>wE C d ρ H λz H=>opGet H x y z Q
 |.dpop o k,ρ,H,Q=>wE C o ρ H λx H=>isDi H x∧wE C k ρ H λy H=>opDpop H x y Q
 |.add o e,ρ,H,Q=>wE C o ρ H λx H=>isSe H x∧wE C e ρ H λy H=>opAdd H x y Q
 |.discard o e,ρ,H,Q=>wE C o ρ H λx H=>isSe H x∧wE C e ρ H λy H=>opDiscard H x y Q
 |.count o e,ρ,H,Q=>wE C o ρ H λx H=>∃ xs,x=.lst xs∧ok (intsOf xs) λis=>wE C e ρ H λy H=>
   ∃ i,y=.int i∧Q (.int ((is.filter (· == i)).length:Nat)) H
 |.comp frz elt t k es tests caps,ρ,H,Q=>wEs C es ρ H λvs H=>ok (srcOf H k vs) λp=>
   compL (guardOf p.1 p.2) (λx H K=>ok (bindT H (mask caps 0 ρ) t x) λρ'=>
     wTs C tests ρ' H λb H=>match b with
      |true=>wE C elt ρ' H λy H=>K (some y) H
      |false=>K Option.none H)
    p.1 H λys H=>newL frz ys H Q
noncomputable def wEs (C:Oracle):List E→AEnv→AHeap→(List AV→AHeap→Prop)→Prop:=@λy_1=>@λy_2=>@λy_3=>@λy_4=>match @y_1,@y_2,@y_3,@y_4 with
 |[],x_1,H,Q=>Q [] H
 |e::es,ρ,H,Q=>wE C e ρ H λx H=>wEs C es ρ H λxs H=>Q (x::xs) H
noncomputable def wTs (C:Oracle):List E→AEnv→AHeap→(Bool→AHeap→Prop)→Prop:=@λy_1=>@λy_2=>@λy_3=>@λy_4=>match @y_1,@y_2,@y_3,@y_4 with
 |[],x_1,H,Q=>Q true H
 |e::es,ρ,H,Q=>wE C e ρ H λx H=>ok (truth H x) λt=>match t with
   |true=>wTs C es ρ H Q
   |false=>Q false H
end
inductive VS:AEnv→AHeap→AEnv→AHeap→Prop where
 |refl (ρ H):VS ρ H ρ H
 |trans {ρ H ρ₁ H₁ ρ₂ H₂}:VS ρ H ρ₁ H₁→VS ρ₁ H₁ ρ₂ H₂→VS ρ H ρ₂ H₂
 |frzVar {ρ H n a xs}:gv ρ n=some (.ref a)→H a=some (.list xs)→VS ρ H (sv ρ n (some (.lst xs))) (del H a)
 |frzFld {ρ H d c fs k a xs}:H d=some (.ns c fs)→fs[k]? = some (.ref a)→H a=some (.list xs)→a≠d→VS ρ H ρ (del (upd H d (.ns c (fs.set k (.lst xs)))) a)
 |frzItem {ρ H a xs i b ys}:H a=some (.list xs)→xs[i]? = some (.ref b)→H b=some (.list ys)→a≠b→VS ρ H ρ (del (upd H a (.list (xs.set i (.lst ys)))) b)
 |frzObj {ρ H n a c d fs}:gv ρ n=some (.ref a)→H a=some (.inst c d)→H d=some (.ns c fs)→VS ρ H (sv ρ n (some (.obj a c fs))) (del (del H a) d)
 |frzFldObj {ρ H d c fs k a c' d' fs'}:H d=some (.ns c fs)→fs[k]? = some (.ref a)→H a=some (.inst c' d')→H d'=some (.ns c' fs')→a≠d→d'≠d →
   VS ρ H ρ (del (del (upd H d (.ns c (fs.set k (.obj a c' fs')))) a) d')
 |forget {ρ H} (a):VS ρ H ρ (del H a)
mutual
noncomputable def wS (C:Oracle):S→AEnv→AHeap→(Fl→AEnv→AHeap→Prop)→Prop:=@λy_1=>@λy_2=>@λy_3=>@λy_4=>match @y_1,@y_2,@y_3,@y_4 with
 |.dead,x_1,x_2,x_3=>False
 |.ghost,ρ,H,Q=>∃ ρ' H',VS ρ H ρ' H'∧Q .nx ρ' H'
 |.asg n e,ρ,H,Q=>wE C e ρ H λx H=>Q .nx (sv ρ n (some x)) H
 |.asgT ns e,ρ,H,Q=>wE C e ρ H λx H=>ok (unpackOf H ns.length x) λxs=>Q .nx (svs ρ ns xs) H
 |.asgA o c k e,ρ,H,Q=>wE C e ρ H λx H=>wE C o ρ H λy H=>opSetA H y c k x λH=>Q .nx ρ H
 |.asgI o i e,ρ,H,Q=>wE C e ρ H λx H=>wE C o ρ H λy H=>wE C i ρ H λz H=>opSetI H y z x λH=>Q .nx ρ H
 |.augN n op e,ρ,H,Q=>ok (gv ρ n) λx=>wE C e ρ H λy H=>ok (opAug op x y) λr=>Q .nx (sv ρ n (some r)) H
 |.augI o i op e,ρ,H,Q=>wE C o ρ H λx H=>wE C i ρ H λj H=>ok (getIx H x j) λy=>wE C e ρ H λz H=>
   ok (opAug op y z) λr=>opSetI H x j r λH=>Q .nx ρ H
 |.augU n e,ρ,H,Q=>ok (gv ρ n) λx=>wE C e ρ H λy H=>∃ a m,x=.ref a∧H a=some (.set m)∧ok (asSet H y) λm'=>
   Q .nx ρ (upd H a (.set λi=>m i||m' i))
 |.ex e,ρ,H,Q=>wE C e ρ H λx_ H=>Q .nx ρ H
 |.iff t a b,ρ,H,Q=>wE C t ρ H λx H=>ok (truth H x) λt=>match t with
   |true=>wB C a ρ H Q
   |false=>wB C b ρ H Q
 |.whl t b,ρ,H,Q=>∃ (I:Nat→AEnv→AHeap→Prop) (n:Nat),I n ρ H∧∀ n ρ H,I n ρ H →
   wE C t ρ H λx H=>ok (truth H x) λt=>match t with
    |true=>wB C b ρ H λf ρ' H'=>match f with
     |.rt v=>Q (.rt v) ρ' H'
     |_=>∃ m,m < n∧I m ρ' H'
    |false=>Q .nx ρ H
 |.forr t k es b,ρ,H,Q=>wEs C es ρ H λvs H=>ok (srcOf H k vs) λp=>
   forL (guardOf p.1 p.2) (λx ρ H K=>ok (bindT H ρ t x) λρ'=>wB C b ρ' H K) p.1 ρ H Q
 |.ret e,ρ,H,Q=>wE C e ρ H λx H=>Q (.rt x) ρ H
 |.cont,ρ,H,Q=>Q .ct ρ H
 |.tryp b,ρ,H,Q=>wB C b ρ H Q
noncomputable def wB (C:Oracle):List S→AEnv→AHeap→(Fl→AEnv→AHeap→Prop)→Prop:=@λy_1=>@λy_2=>@λy_3=>@λy_4=>match @y_1,@y_2,@y_3,@y_4 with
 |[],ρ,H,Q=>Q .nx ρ H
 |s::r,ρ,H,Q=>wS C s ρ H λf ρ' H'=>match f with
  |.nx=>wB C r ρ' H' Q
  |f=>Q f ρ' H'
end
structure FnDef where
 np:Nat
 nv:Nat
 body:List S
noncomputable def emptyEnv:Nat→AEnv:=@λy_1=>match @y_1 with
 |0=>[]
 |n+1=>none::emptyEnv n
noncomputable def retOf:Fl→AV:=@λy_1=>match @y_1 with
 |.rt v=>v
 |x_1=>.none
noncomputable def callFn (C:Oracle) (d:FnDef) (args:List AV) (H:AHeap) (Q:AV→AHeap→Prop):Prop:=
 args.length=d.np∧wB C d.body (args.map some++emptyEnv (d.nv - d.np)) H λf x_ H'=>Q (retOf f) H'
noncomputable def callP (P:Nat→Option FnDef) (C:Oracle):Oracle:=λf args H Q=>ok (P f) λd=>callFn C d args H Q
@[irreducible] noncomputable def CnG (F:Oracle→Oracle) (n:Nat):Oracle:=Nat.rec (λx_ x_ x_ x_=>False) (λx_ C=>F C) n
theorem CnG_succ (F:Oracle→Oracle)(n:Nat):CnG F (n+1)=F (CnG F n):=by delta CnG;rfl
theorem CnG_zero (F:Oracle→Oracle):CnG F 0=λx_ x_ x_ x_=>False:=by delta CnG;rfl
noncomputable abbrev Cn (P:Nat→Option FnDef) (n:Nat):Oracle:=CnG (callP P) n
theorem Cn_zero {P:Nat→Option FnDef}{f:Nat}{xs:List AV}{H:AHeap}{Q:AV→AHeap→Prop}(h:Cn P 0 f xs H Q):False:=by rw[Cn,CnG_zero] at h;exact h
theorem Cn_succ {P:Nat→Option FnDef}{n f:Nat}{xs:List AV}{H:AHeap}{Q:AV→AHeap→Prop}(h:Cn P (n+1) f xs H Q):∃ d,P f=some d∧callFn (Cn P n) d xs H Q:=by
 rw[Cn,CnG_succ] at h;exact ok_ex h
theorem lstO_s {a:Nat}{o:Option AObj}{p:List AV×Option Nat}(h:lstO a o=some p):∃ xs,o=some (.list xs)∧p=(xs,some a):=by
 cases o with
 |none=>exact none_some h
 |some o=>cases o with
  |list xs=>exact⟨xs,rfl,(Option.some.inj h).symm⟩
  |_=>exact none_some h
theorem lenO_s {o:Option AObj}{r:Int}(h:lenO o=some r):∃ xs,o=some (.list xs)∧(xs.length:Int)=r:=by
 cases o with
 |none=>exact none_some h
 |some o=>cases o with
  |list xs=>exact⟨xs,rfl,Option.some.inj h⟩
  |_=>exact none_some h
theorem setO_s {o:Option AObj}{m:Int→Bool}(h:setO o=some m):o=some (.set m):=by
 cases o with
 |none=>exact none_some h
 |some o=>cases o with
  |set m'=>exact congrArg (λm=>some (AObj.set m)) (Option.some.inj h)
  |_=>exact none_some h
theorem truthO_s {o:Option AObj}{b:Bool}(h:truthO o=some b):(∃ xs,o=some (.list xs)∧(!xs.isEmpty)=b)∨∃ es,o=some (.dict es)∧(!es.isEmpty)=b:=by
 cases o with
 |none=>exact none_some h
 |some o=>cases o with
  |list xs=>exact .inl ⟨xs,rfl,Option.some.inj h⟩
  |dict es=>exact .inr ⟨es,rfl,Option.some.inj h⟩
  |_=>exact none_some h
theorem getIxO_s {i:Int}{o:Option AObj}{r:AV}(h:getIxO i o=some r):(∃ xs,o=some (.list xs)∧atIx xs i=some r)∨∃ es,o=some (.dict es)∧es.lookup i=some r:=by
 cases o with
 |none=>exact none_some h
 |some o=>cases o with
  |list xs=>exact .inl ⟨xs,rfl,h⟩
  |dict es=>exact .inr ⟨es,rfl,h⟩
  |_=>exact none_some h
theorem intOf_s {x:AV}{i:Int}(h:intOf x=some i):x=.int i:=by
 cases x with
 |int j=>exact congrArg AV.int (Option.some.inj h)
 |_=>exact none_some h
theorem map_s {α β:Type}{f:α→β}{o:Option α}{b:β}(h:o.map f=some b):∃ a,o=some a∧f a=b:=by
 cases o with
 |none=>exact none_some h
 |some a=>exact⟨a,rfl,Option.some.inj h⟩
theorem opInO_s {x:AV}{o:Option AObj}{b:Bool}(h:opInO x o=some b):(∃ xs,o=some (.list xs)∧anyEq x xs=some b)∨(∃ es i,o=some (.dict es)∧x=.int i∧(es.lookup i).isSome=b)∨∃ m i,o=some (.set m)∧x=.int i∧m i=b:=by
 cases o with
 |none=>exact none_some h
 |some o=>cases o with
  |list xs=>exact .inl ⟨xs,rfl,h⟩
  |dict es=>let ⟨i,e,q⟩:=map_s h;exact .inr (.inl ⟨es,i,rfl,intOf_s e,q⟩)
  |set m=>let ⟨i,e,q⟩:=map_s h;exact .inr (.inr ⟨m,i,rfl,intOf_s e,q⟩)
  |_=>exact none_some h
theorem instO_s {H:AHeap}{c k:Nat}{o:Option AObj}{r:AV}(h:instO H c k o=some r):∃ d fs,o=some (.inst c d)∧H d=some (.ns c fs)∧fs[k]? = some r:=by
 have ns:∀ {c':Nat} {o:Option AObj},nsO c k c' o=some r→∃ fs,c'=c∧o=some (.ns c fs)∧fs[k]? = some r:=λ{c' o} h=>by
  cases o with
  |none=>exact none_some h
  |some o=>cases o with
   |ns c2 fs=>
    by_cases e:c'=c∧c2=c
    ·exact⟨fs,e.1,by (refine rwI e.2 ?_;rfl),(if_pos e).symm.trans h⟩
    ·exact none_some ((if_neg e).symm.trans h)
   |_=>exact none_some h
 cases o with
 |none=>exact none_some h
 |some o=>cases o with
  |inst c' d=>let ⟨fs,e,q1,q2⟩:=ns h;exact⟨d,fs,by (refine rwI e ?_;rfl),q1,q2⟩
  |_=>exact none_some h
set_option tactic.hygienic true in
theorem sortedO_s {o:Option AObj}{r:List AV}(h:sortedO o=some r):∃ es,o=some (.dict es)∧es.length < 64∧r=(sortI (es.map (·.1))).map .int:=by
 cases o with
 |none=>exact none_some h
 |some o=>cases o with
  |dict es=>
   replace h:(if es.length < 64 then some _ else none)=some r:=h
   split at h
   ·rename_i q;exact⟨es,rfl,q,(Option.some.inj h).symm⟩
   ·exact none_some h
  |_=>exact none_some h
set_option tactic.hygienic true in
theorem setL_s {is:Option (List Int)}{m:Int→Bool}(h:setL is=some m):∃ l,is=some l∧(∀ i∈l,0≤i∧i < 32)∧l.length < 1000∧l≠[]∧m=setM l:=by
 cases is with
 |none=>exact none_some h
 |some l=>
  replace h:(if _ then some _ else none)=some m:=h
  split at h
  ·rename_i q
   obtain⟨q,q3⟩:=Bool.and_eq_true_iff.mp q
   obtain⟨q1,q2⟩:=Bool.and_eq_true_iff.mp q
   refine⟨l,rfl,λi hi=>?_,of_decide_eq_true q2,?_,(Option.some.inj h).symm⟩
   ·have:=Bool.and_eq_true_iff.mp (List.all_eq_true.mp q1 i hi);exact⟨of_decide_eq_true this.1,of_decide_eq_true this.2⟩
   ·rintro rfl;exact (Bool.false_ne_true q3).elim
  ·exact none_some h
set_option tactic.hygienic true in
theorem unpackOf_s {H:AHeap}{n:Nat}{x:AV}{ys:List AV}(h:unpackOf H n x=some ys):ys.length=n∧(x=.tup ys∨x=.lst ys∨∃ a,x=.ref a∧H a=some (.list ys)):=by
 have key:∀ {xs:List AV},(if xs.length=n then some xs else none)=some ys→xs.length=n∧xs=ys:=λ{xs} h=>by
  split at h
  ·rename_i q;exact⟨q,Option.some.inj h⟩
  ·exact none_some h
 cases x with
 |tup xs=>obtain⟨q,rfl⟩:=key h;exact⟨q,.inl rfl⟩
 |lst xs=>obtain⟨q,rfl⟩:=key h;exact⟨q,.inr (.inl rfl)⟩
 |ref a=>
  replace h:(match lstO a (H a) with|some (xs,_)=>if xs.length=n then some xs else none|none=>none)=some ys:=h
  cases e:lstO a (H a) with
  |none=>rw[e] at h;exact none_some h
  |some p=>
   obtain⟨xs,hH,rfl⟩:=lstO_s e
   rw[e] at h
   obtain⟨q,rfl⟩:=key h;exact⟨q,.inr (.inr ⟨a,rfl,hH⟩)⟩
 |_=>exact none_some h
theorem asSet_ref {H:AHeap}{x:AV}{m:Int→Bool}(h:asSet H x=some m):∃ a,x=.ref a∧H a=some (.set m):=by
 cases x with
 |ref a=>exact⟨a,rfl,setO_s h⟩
 |_=>exact none_some h
noncomputable def AugS (op:Bin) (x y r:AV):Prop:=∃ a b,x=.int a∧y=.int b∧op=.add∧r=.int (a+b)
theorem opAug_s {op:Bin}{x y r:AV}(h:opAug op x y=some r):AugS op x y r:=by
 cases x with
 |int a=>cases y with
  |int b=>cases op with
   |add=>exact⟨a,b,rfl,rfl,rfl,(Option.some.inj h).symm⟩
   |_=>exact none_some h
  |_=>exact none_some h
 |_=>exact none_some h
noncomputable def OrdS (op:Cm) (x y:AV) (b:Bool):Prop:=∃ i j,x=.int i∧y=.int j∧opOrd op i j=some b
theorem ordOf_s {op:Cm}{x y:AV}{b:Bool}(h:ordOf op x y=some b):OrdS op x y b:=by
 cases x with
 |int i=>cases y with
  |int j=>exact⟨i,j,rfl,rfl,h⟩
  |_=>exact none_some h
 |_=>exact none_some h
noncomputable def BinS (op:Bin) (x y r:AV):Prop:=(∃ a b,x=.int a∧y=.int b∧opInt op a b=some r)∨(∃ a b,x=.str a∧y=.str b∧(if isAdd op&&decide (a.length+b.length≤1000) then some (.str (a++b)) else none)=some r) ∨
  ∃ a b,x=.lst a∧y=.lst b∧(if isAdd op&&decide (a.length+b.length≤100000) then some (.lst (a++b)) else none)=some r
theorem opBin_s {op:Bin}{x y r:AV}(h:opBin op x y=some r):BinS op x y r:=by
 cases x with
 |int a=>cases y with
  |int b=>exact .inl ⟨a,b,rfl,rfl,h⟩
  |_=>exact none_some h
 |str a=>cases y with
  |str b=>exact .inr (.inl ⟨a,b,rfl,rfl,h⟩)
  |_=>exact none_some h
 |lst a=>cases y with
  |lst b=>exact .inr (.inr ⟨a,b,rfl,rfl,h⟩)
  |_=>exact none_some h
 |_=>exact none_some h
set_option tactic.hygienic true in
theorem add_s {op:Bin}{p:Prop} [Decidable p]{v r:AV}(h:(if isAdd op&&decide p then some v else Option.none)=some r):op=.add∧p∧v=r:=by
 split at h
 ·rename_i q
  obtain⟨q1,q2⟩:=Bool.and_eq_true_iff.mp q
  refine⟨?_,of_decide_eq_true q2,Option.some.inj h⟩
  cases op with
  |add=>rfl
  |_=>exact (Bool.false_ne_true q1).elim
 ·exact none_some h
set_option tactic.hygienic true in
theorem if_s {c:Prop} [Decidable c]{v r:AV}(h:(if c then some v else Option.none)=some r):c∧v=r:=by
 split at h
 ·rename_i q;exact⟨q,Option.some.inj h⟩
 ·exact none_some h
end Mine.Internal
namespace Mine.Internal
noncomputable def f_followers:FnDef:=⟨1,2,[
 .asg 1 (.attr (.v 0) 1 2),
 .iff (.cmp .eq (.attr (.v 1) 0 0) (.str "jump")) [
  .ret (.lst true [.attr (.v 1) 0 3])] [],
 .iff (.cmp .eq (.attr (.v 1) 0 0) (.str "branch")) [
  .ret (.lst true [.idx (.attr (.v 1) 0 3) (.int 0),.idx (.attr (.v 1) 0 3) (.int 1)])] [],
 .iff (.cmp .eq (.attr (.v 1) 0 0) (.str "table")) [
  .dead] [],
 .ret (.lst true [])]⟩
noncomputable def vars_followers:List String:=["block","end"]
noncomputable def f_check_operand:FnDef:=⟨3,5,[
 .asgT [3,4] (.v 1),
 .iff (.cmp .eq (.v 3) (.str "r")) [
  .iff (.not (.cmp2 .le .lt (.int 0) (.v 4) (.attr (.v 0) 2 5))) [
   .dead] []] [
  .iff (.or (.cmp .ne (.v 3) (.str "k")) (.not (.cmp2 .le .le (.int 0) (.v 4) (.glob 0)))) [
   .dead] []]]⟩
noncomputable def vars_check_operand:List String:=["func","operand","where","kind","value"]
noncomputable def f_wanted_args:FnDef:=⟨1,1,[
 .iff (.or (.inG false (.attr (.v 0) 0 0) 0) (.or (.cmp .eq (.attr (.v 0) 0 0) (.str "store")) (.cmp .eq (.attr (.v 0) 0 0) (.str "move")))) [
  .ret (.int 2)] [],
 .iff (.or (.inG false (.attr (.v 0) 0 0) 1) (.or (.cmp .eq (.attr (.v 0) 0 0) (.str "const")) (.cmp .eq (.attr (.v 0) 0 0) (.str "load")))) [
  .ret (.int 1)] [],
 .iff (.or (.cmp .eq (.attr (.v 0) 0 0) (.str "slot")) (.cmp .eq (.attr (.v 0) 0 0) (.str "name"))) [
  .ret (.int 0)] [],
 .iff (.or (.cmp .eq (.attr (.v 0) 0 0) (.str "call")) (.cmp .eq (.attr (.v 0) 0 0) (.str "callreg"))) [
  .ret (.int (-1))] [],
 .dead]⟩
noncomputable def vars_wanted_args:List String:=["step"]
noncomputable def f_check_more:FnDef:=⟨3,3,[
 .iff (.cmp .eq (.attr (.v 1) 0 0) (.str "load")) [
  .iff (.cmp .notin (.idx (.attr (.v 1) 0 3) (.int 0)) (.tup [.int 1,.int 2,.int 4])) [
   .dead] []] [
  .iff (.cmp .eq (.attr (.v 1) 0 0) (.str "store")) [
   .iff (.cmp .notin (.attr (.v 1) 0 3) (.tup [.int 1,.int 2,.int 4])) [
    .dead] []] [
   .iff (.cmp .eq (.attr (.v 1) 0 0) (.str "slot")) [
    .iff (.not (.cmp2 .le .lt (.int 0) (.attr (.v 1) 0 3) (.len (.attr (.v 0) 2 3)))) [
     .dead] []] [
    .iff (.cmp .eq (.attr (.v 1) 0 0) (.str "move")) [
     .iff (.or (.cmp .lt (.idx (.attr (.v 1) 0 3) (.int 0)) (.int 1)) (.cmp .notin (.idx (.attr (.v 1) 0 3) (.int 1)) (.tup [.int 1,.int 2,.int 4]))) [
      .dead] []] [
     .iff (.and (.cmp .eq (.attr (.v 1) 0 0) (.str "const")) (.cmp .ne (.idx (.idx (.attr (.v 1) 0 2) (.int 0)) (.int 0)) (.str "k"))) [
      .dead] [
      .iff (.and (.cmp .eq (.attr (.v 1) 0 0) (.str "callreg")) .dead) [
       .dead] []]]]]],
 .iff (.and (.attr (.v 1) 0 4) (.cmp .notin (.attr (.v 1) 0 0) (.tup [.str "load",.str "store",.str "move"]))) [
  .dead] []]⟩
noncomputable def vars_check_more:List String:=["func","step","where"]
noncomputable def f_check_step:FnDef:=⟨3,5,[
 .asg 3 (.call 2 [.v 1]),
 .iff (.and (.cmp .ge (.v 3) (.int 0)) (.cmp .ne (.len (.attr (.v 1) 0 2)) (.v 3))) [
  .dead] [],
 .forr (.one 4) .plain [.attr (.v 1) 0 2] [
  .ex (.call 1 [.v 0,.v 4,.v 2])],
 .ex (.call 3 [.v 0,.v 1,.v 2]),
 .iff (.or (.cmp .eq (.attr (.v 1) 0 0) (.str "store")) (.cmp .eq (.attr (.v 1) 0 0) (.str "move"))) [
  .iff (.cmp .ne (.attr (.v 1) 0 1) (.int (-1))) [
   .dead] []] [
  .iff (.or (.cmp .eq (.attr (.v 1) 0 0) (.str "call")) (.cmp .eq (.attr (.v 1) 0 0) (.str "callreg"))) [
   .iff (.not (.cmp2 .le .lt (.int (-1)) (.attr (.v 1) 0 1) (.attr (.v 0) 2 5))) [
    .dead] []] [
   .iff (.not (.cmp2 .le .lt (.int 0) (.attr (.v 1) 0 1) (.attr (.v 0) 2 5))) [
    .dead] []]]]⟩
noncomputable def vars_check_step:List String:=["func","step","where","many","operand"]
noncomputable def f_check_end:FnDef:=⟨3,7,[
 .asg 3 (.attr (.v 1) 1 2),
 .iff (.or (.cmp .is (.v 3) .none) (.inG true (.attr (.v 3) 0 0) 2)) [
  .dead] [],
 .iff (.cmp .eq (.attr (.v 3) 0 0) (.str "give")) [
  .asg 6 (.ife (.attr (.v 0) 2 6) (.int 1) (.int 0))] [
  .asg 6 (.ife (.cmp .eq (.attr (.v 3) 0 0) (.str "jump")) (.int 0) (.int 1))],
 .iff (.cmp .ne (.len (.attr (.v 3) 0 2)) (.v 6)) [
  .dead] [],
 .forr (.one 4) .plain [.attr (.v 3) 0 2] [
  .ex (.call 1 [.v 0,.v 4,.v 2])],
 .forr (.one 5) .plain [.call 0 [.v 1]] [
  .iff (.not (.cmp2 .le .lt (.int 0) (.v 5) (.len (.attr (.v 0) 2 4)))) [
   .dead] []]]⟩
noncomputable def vars_check_end:List String:=["func","block","where","end","operand","number","wanted"]
noncomputable def f_set_at_ends:FnDef:=⟨1,8,[
 .asg 1 (.comp false .none (.one 7) .plain [.attr (.v 0) 2 4] [] []),
 .asgI (.v 1) (.int 0) (.setOf (.attr (.v 0) 2 1)),
 .asg 2 (.lst false [.int 0]),
 .whl (.cmp .ne (.v 2) (.lst true [])) [
  .asg 3 (.pop (.v 2)),
  .asg 4 (.setOf (.idx (.v 1) (.v 3))),
  .forr (.one 5) .plain [.attr (.idx (.attr (.v 0) 2 4) (.v 3)) 1 1] [
   .iff (.cmp .ge (.attr (.v 5) 0 1) (.int 0)) [
    .ex (.add (.v 4) (.attr (.v 5) 0 1))] []],
  .forr (.one 6) .plain [.call 0 [.idx (.attr (.v 0) 2 4) (.v 3)]] [
   .iff (.cmp .is (.idx (.v 1) (.v 6)) .none) [
    .asgI (.v 1) (.v 6) (.setOf (.v 4)),
    .ex (.append (.v 2) (.v 6))] [
    .iff (.not (.setLe (.idx (.v 1) (.v 6)) (.v 4))) [
     .asgI (.v 1) (.v 6) .dead,
     .ex (.append (.v 2) (.v 6))] []]]],
 .ret (.v 1)]⟩
noncomputable def vars_set_at_ends:List String:=["func","known","waiting","at","now","step","number","block"]
noncomputable def f_check_set:FnDef:=⟨3,5,[
 .forr (.many [3,4]) .plain [.v 0] [
  .iff (.and (.cmp .eq (.v 3) (.str "r")) (.cmp .notin (.v 4) (.v 1))) [
   .dead] []]]⟩
noncomputable def vars_check_set:List String:=["args","now","where","kind","value"]
noncomputable def f_check_func:FnDef:=⟨1,10,[
 .iff (.eqNil (.attr (.v 0) 2 4)) [
  .dead] [],
 .forr (.one 1) .plain [.attr (.v 0) 2 1] [
  .iff (.or (.not (.cmp2 .le .lt (.int 0) (.v 1) (.attr (.v 0) 2 5))) (.cmp .gt (.count (.attr (.v 0) 2 1) (.v 1)) (.int 1))) [
   .dead] []],
 .forr (.many [3,4]) .plain [.attr (.v 0) 2 3] [
  .iff (.or (.cmp .lt (.v 3) (.int 1)) (.cmp .notin (.v 4) (.tup [.int 1,.int 2,.int 4]))) [
   .dead] []],
 .forr (.many [5,6]) .enum [.attr (.v 0) 2 4] [
  .asg 7 (.bin .add (.bin .add (.attr (.v 0) 2 0) (.str " block ")) (.strOf (.v 5))),
  .iff (.cmp .ne (.attr (.v 6) 1 0) (.v 5)) [
   .dead] [],
  .forr (.one 8) .plain [.attr (.v 6) 1 1] [
   .ex (.call 4 [.v 0,.v 8,.v 7])],
  .ex (.call 5 [.v 0,.v 6,.v 7])],
 .asg 2 (.call 6 [.v 0]),
 .forr (.many [5,6]) .enum [.attr (.v 0) 2 4] [
  .iff (.cmp .isnt (.idx (.v 2) (.v 5)) .none) [
   .asg 9 (.setOf (.idx (.v 2) (.v 5))),
   .asg 7 (.bin .add (.bin .add (.attr (.v 0) 2 0) (.str " block ")) (.strOf (.v 5))),
   .forr (.one 8) .plain [.attr (.v 6) 1 1] [
    .ex (.call 7 [.attr (.v 8) 0 2,.v 9,.v 7]),
    .iff (.cmp .ge (.attr (.v 8) 0 1) (.int 0)) [
     .ex (.add (.v 9) (.attr (.v 8) 0 1))] []],
   .ex (.call 7 [.attr (.attr (.v 6) 1 2) 0 2,.v 9,.v 7])] []]]⟩
noncomputable def vars_check_func:List String:=["func","number","known","size","align","at","block","where","step","now"]
noncomputable def f_has_effect:FnDef:=⟨1,1,[
 .ret (.or (.inG false (.attr (.v 0) 0 0) 3) (.attr (.v 0) 0 4))]⟩
noncomputable def vars_has_effect:List String:=["step"]
noncomputable def f_can_fault:FnDef:=⟨1,3,[
 .iff (.or (.cmp .eq (.attr (.v 0) 0 0) (.str "load")) (.attr (.v 0) 0 4)) [
  .ret (.bool true)] [],
 .iff (.inG true (.attr (.v 0) 0 0) 4) [
  .ret (.bool false)] [],
 .asgT [1,2] (.idx (.attr (.v 0) 0 2) (.int 1)),
 .ret (.or (.cmp .ne (.v 1) (.str "k")) (.cmp .eq (.bin .mod (.v 2) (.glob 1)) (.int 0)))]⟩
noncomputable def vars_can_fault:List String:=["step","kind","value"]
noncomputable def f_is_plain:FnDef:=⟨1,1,[
 .ret (.and (.not (.call 9 [.v 0])) (.not (.call 10 [.v 0])))]⟩
noncomputable def vars_is_plain:List String:=["step"]
noncomputable def f_preds:FnDef:=⟨1,4,[
 .asg 1 (.comp false (.lst false []) (.one 2) .plain [.attr (.v 0) 2 4] [] []),
 .forr (.one 2) .plain [.attr (.v 0) 2 4] [
  .forr (.one 3) .plain [.call 0 [.v 2]] [
   .iff (.cmp .notin (.attr (.v 2) 1 0) (.idx (.v 1) (.v 3))) [
    .ex (.append (.idx (.v 1) (.v 3)) (.attr (.v 2) 1 0))] []]],
 .ret (.v 1)]⟩
noncomputable def vars_preds:List String:=["func","found","block","number"]
noncomputable def f_postorder:FnDef:=⟨1,6,[
 .asg 1 (.lst false []),
 .asg 2 (.set1 0),
 .asg 3 (.lst false [.lst false [.int 0,.call 0 [.idx (.attr (.v 0) 2 4) (.int 0)],.int 0]]),
 .whl (.v 3) [
  .asg 4 (.idx (.v 3) (.int (-1))),
  .iff (.cmp .eq (.idx (.v 4) (.int 2)) (.len (.idx (.v 4) (.int 1)))) [
   .ex (.append (.v 1) (.idx (.v 4) (.int 0))),
   .ex (.pop (.v 3)),
   .cont] [],
  .asg 5 (.idx (.idx (.v 4) (.int 1)) (.idx (.v 4) (.int 2))),
  .augI (.v 4) (.int 2) .add (.int 1),
  .iff (.cmp .notin (.v 5) (.v 2)) [
   .ex (.add (.v 2) (.v 5)),
   .ex (.append (.v 3) (.lst false [.v 5,.call 0 [.idx (.attr (.v 0) 2 4) (.v 5)],.int 0]))] []],
 .ret (.v 1)]⟩
noncomputable def vars_postorder:List String:=["func","found","seen","stack","top","number"]
noncomputable def f_in_place_of:FnDef:=⟨5,6,[
 .asg 5 (.mk 0 [.v 1,.v 2,.v 3,.v 4]),
 .asgA (.v 5) 0 5 (.attr (.v 0) 0 5),
 .ghost,
 .ret (.v 5)]⟩
noncomputable def vars_in_place_of:List String:=["step","op","dst","args","more","found"]
noncomputable def f_slot_steps:FnDef:=⟨1,4,[
 .asg 1 (.lst false []),
 .forr (.one 2) .plain [.attr (.v 0) 2 4] [
  .forr (.one 3) .plain [.attr (.v 2) 1 1] [
   .iff (.cmp .eq (.attr (.v 3) 0 0) (.str "slot")) [
    .ex (.append (.v 1) (.v 3))] []]],
 .ghost,
 .ret (.v 1)]⟩
noncomputable def vars_slot_steps:List String:=["func","found","block","step"]
noncomputable def f_times_set:FnDef:=⟨2,6,[
 .asg 2 .dict0,
 .forr (.one 3) .plain [.attr (.v 0) 2 1] [
  .asgI (.v 2) (.v 3) (.int 1)],
 .forr (.one 4) .plain [.attr (.v 0) 2 4] [
  .forr (.one 5) .plain [.attr (.v 4) 1 1] [
   .iff (.cmp .isin (.attr (.v 5) 0 1) (.v 1)) [
    .asgI (.v 2) (.attr (.v 5) 0 1) (.bin .add (.get (.v 2) (.attr (.v 5) 0 1) (.int 0)) (.int 1))] []]],
 .ret (.v 2)]⟩
noncomputable def vars_times_set:List String:=["func","registers","found","register","block","step"]
noncomputable def f_slot_registers:FnDef:=⟨1,6,[
 .asg 1 .dict0,
 .asg 2 .set0,
 .asg 3 (.call 15 [.v 0]),
 .forr (.one 4) .plain [.v 3] [
  .asgI (.v 1) (.attr (.v 4) 0 1) (.attr (.v 4) 0 3)],
 .asg 5 (.ife (.v 1) (.call 16 [.v 0,.v 1]) .dict0),
 .forr (.one 4) .plain [.v 3] [
  .iff (.cmp .ne (.idx (.v 5) (.attr (.v 4) 0 1)) (.int 1)) [
   .ex (.add (.v 2) (.attr (.v 4) 0 3)),
   .ex (.dpop (.v 1) (.attr (.v 4) 0 1))] []],
 .ret (.tup [.v 1,.v 2])]⟩
noncomputable def vars_slot_registers:List String:=["func","slots","taken","steps","step","often"]
noncomputable def f_is_free:FnDef:=⟨3,5,[
 .iff (.inG true (.attr (.v 2) 0 0) 6) [
  .ret (.bool true)] [],
 .iff (.or (.cmp .ne (.attr (.v 2) 0 0) (.str "load")) (.attr (.v 2) 0 4)) [
  .ret (.call 11 [.v 2])] [],
 .asgT [3,4] (.idx (.attr (.v 2) 0 2) (.int 0)),
 .ret (.and (.cmp .eq (.v 3) (.str "r")) (.and (.cmp .isin (.v 4) (.v 1)) (.cmp .le (.idx (.attr (.v 2) 0 3) (.int 0)) (.idx (.idx (.attr (.v 0) 2 3) (.idx (.v 1) (.v 4))) (.int 0)))))]⟩
noncomputable def vars_is_free:List String:=["func","addresses","step","kind","value"]
noncomputable def f_need_ahead:FnDef:=⟨4,7,[
 .forr (.many [5,6]) .plain [.attr (.attr (.v 2) 1 2) 0 2] [
  .iff (.cmp .eq (.v 5) (.str "r")) [
   .ex (.add (.v 3) (.v 6))] []],
 .forr (.one 4) .plain [.revs (.attr (.v 2) 1 1)] [
  .iff (.cmp .isin (.attr (.v 4) 0 1) (.v 3)) [
   .ex (.discard (.v 3) (.attr (.v 4) 0 1))] [
   .iff (.call 18 [.v 0,.v 1,.v 4]) [
    .cont] []],
  .forr (.many [5,6]) .plain [.attr (.v 4) 0 2] [
   .iff (.cmp .eq (.v 5) (.str "r")) [
    .ex (.add (.v 3) (.v 6))] []]],
 .ret (.v 3)]⟩
noncomputable def vars_need_ahead:List String:=["func","addresses","block","here","step","kind","value"]
noncomputable def f_need_behind:FnDef:=⟨2,4,[
 .asg 2 .set0,
 .forr (.one 3) .plain [.call 0 [.v 0]] [
  .augU 2 (.idx (.v 1) (.v 3))],
 .ret (.v 2)]⟩
noncomputable def vars_need_behind:List String:=["block","ahead","found","follower"]
noncomputable def f_needs_ahead:FnDef:=⟨2,11,[
 .asg 2 (.call 13 [.v 0]),
 .asg 3 (.call 12 [.v 0]),
 .asg 4 .dict0,
 .asg 5 .dict0,
 .forr (.one 6) .plain [.v 2] [
  .asgI (.v 4) (.v 6) .set0,
  .asgI (.v 5) (.v 6) (.bool true)],
 .asg 7 (.int 0),
 .whl (.cmp .lt (.v 7) (.len (.v 2))) [
  .asg 6 (.idx (.v 2) (.v 7)),
  .augN 7 .add (.int 1),
  .asgI (.v 5) (.v 6) (.bool false),
  .asg 8 (.idx (.attr (.v 0) 2 4) (.v 6)),
  .asg 9 (.call 19 [.v 0,.v 1,.v 8,.call 20 [.v 8,.v 4]]),
  .iff (.setNe (.v 9) (.idx (.v 4) (.v 6))) [
   .asgI (.v 4) (.v 6) (.v 9),
   .forr (.one 10) .plain [.idx (.v 3) (.v 6)] [
    .iff (.and (.cmp .isin (.v 10) (.v 4)) (.not (.idx (.v 5) (.v 10)))) [
     .asgI (.v 5) (.v 10) (.bool true),
     .ex (.append (.v 2) (.v 10))] []]] []],
 .ret (.v 4)]⟩
noncomputable def vars_needs_ahead:List String:=["func","addresses","waiting","before","ahead","is_waiting","number","at","block","found","other"]
noncomputable def f_without_register:FnDef:=⟨1,1,[
 .ret (.call 14 [.v 0,.attr (.v 0) 0 0,.int (-1),.attr (.v 0) 0 2,.attr (.v 0) 0 3])]⟩
noncomputable def vars_without_register:List String:=["step"]
noncomputable def f_swept_steps:FnDef:=⟨4,8,[
 .forr (.many [6,7]) .plain [.attr (.attr (.v 2) 1 2) 0 2] [
  .iff (.cmp .eq (.v 6) (.str "r")) [
   .ex (.add (.v 3) (.v 7))] []],
 .asg 4 (.lst false []),
 .forr (.one 5) .plain [.revs (.attr (.v 2) 1 1)] [
  .iff (.cmp .isin (.attr (.v 5) 0 1) (.v 3)) [
   .iff (.and (.cmp .eq (.attr (.v 5) 0 0) (.str "copy")) (.cmp .eq (.idx (.attr (.v 5) 0 2) (.int 0)) (.tup [.str "r",.attr (.v 5) 0 1]))) [
    .cont] [],
   .ex (.discard (.v 3) (.attr (.v 5) 0 1))] [
   .iff (.call 18 [.v 0,.v 1,.v 5]) [
    .cont] [
    .iff (.and (.cmp .ge (.attr (.v 5) 0 1) (.int 0)) (.inG false (.attr (.v 5) 0 0) 5)) [
     .asg 5 (.call 22 [.v 5])] []]],
  .forr (.many [6,7]) .plain [.attr (.v 5) 0 2] [
   .iff (.cmp .eq (.v 6) (.str "r")) [
    .ex (.add (.v 3) (.v 7))] []],
  .ex (.append (.v 4) (.v 5))],
 .ret (.revs (.v 4))]⟩
noncomputable def vars_swept_steps:List String:=["func","addresses","block","here","kept","step","kind","value"]
noncomputable def f_sweep_steps:FnDef:=⟨2,9,[
 .asg 2 (.call 21 [.v 0,.v 1]),
 .asg 3 (.bool false),
 .forr (.one 4) .plain [.sorted (.v 2)] [
  .asg 5 (.idx (.attr (.v 0) 2 4) (.v 4)),
  .asg 6 (.call 23 [.v 0,.v 1,.v 5,.call 20 [.v 5,.v 2]]),
  .iff (.or (.cmp .lt (.len (.v 6)) (.len (.attr (.v 5) 1 1))) (.any (.comp true (.cmp .isnt (.v 7) (.v 8)) (.many [7,8]) .zip [.v 6,.attr (.v 5) 1 1] [] []))) [
   .asgA (.v 5) 1 1 (.v 6),
   .asg 3 (.bool true)] []],
 .ret (.v 3)]⟩
noncomputable def vars_sweep_steps:List String:=["func","addresses","ahead","is_changed","number","block","kept","one","other"]
noncomputable def f_is_plain_store:FnDef:=⟨4,4,[
 .iff (.or (.cmp .ne (.attr (.v 1) 0 0) (.str "store")) (.or (.cmp .ne (.v 2) (.int 0)) (.attr (.v 1) 0 4))) [
  .ret (.bool false)] [],
 .ret (.cmp .le (.attr (.v 1) 0 3) (.idx (.idx (.attr (.v 0) 2 3) (.v 3)) (.int 0)))]⟩
noncomputable def vars_is_plain_store:List String:=["func","step","place","slot"]
noncomputable def f_taken_slots:FnDef:=⟨3,11,[
 .asg 3 (.setOf (.v 2)),
 .forr (.one 4) .plain [.attr (.v 0) 2 4] [
  .forr (.one 5) .plain [.attr (.v 4) 1 1] [
   .forr (.many [8,9]) .enum [.attr (.v 5) 0 2] [
    .iff (.and (.cmp .eq (.idx (.v 9) (.int 0)) (.str "r")) (.cmp .isin (.idx (.v 9) (.int 1)) (.v 1))) [
     .asg 10 (.idx (.v 1) (.idx (.v 9) (.int 1))),
     .iff (.not (.call 25 [.v 0,.v 5,.v 8,.v 10])) [
      .ex (.add (.v 3) (.v 10))] []] []]],
  .forr (.many [6,7]) .plain [.attr (.attr (.v 4) 1 2) 0 2] [
   .iff (.and (.cmp .eq (.v 6) (.str "r")) (.cmp .isin (.v 7) (.v 1))) [
    .ex (.add (.v 3) (.idx (.v 1) (.v 7)))] []]],
 .ret (.v 3)]⟩
noncomputable def vars_taken_slots:List String:=["func","addresses","taken","found","block","step","kind","value","place","operand","slot"]
noncomputable def f_is_store_to:FnDef:=⟨3,5,[
 .iff (.cmp .ne (.attr (.v 0) 0 0) (.str "store")) [
  .ret (.bool false)] [],
 .asgT [3,4] (.idx (.attr (.v 0) 0 2) (.int 0)),
 .ret (.and (.cmp .eq (.v 3) (.str "r")) (.and (.cmp .isin (.v 4) (.v 1)) (.cmp .notin (.idx (.v 1) (.v 4)) (.v 2))))]⟩
noncomputable def vars_is_store_to:List String:=["step","addresses","taken","kind","value"]
noncomputable def f_sweep_stores:FnDef:=⟨3,7,[
 .iff (.not (.v 1)) [
  .ret (.bool false)] [],
 .asg 2 (.call 26 [.v 0,.v 1,.v 2]),
 .asg 3 (.bool false),
 .forr (.one 4) .plain [.attr (.v 0) 2 4] [
  .asg 5 (.comp true (.v 6) (.one 6) .plain [.attr (.v 4) 1 1] [.not (.call 27 [.v 6,.v 1,.v 2])] [1,2]),
  .iff (.cmp .lt (.len (.v 5)) (.len (.attr (.v 4) 1 1))) [
   .asgA (.v 4) 1 1 (.v 5),
   .asg 3 (.bool true)] []],
 .ret (.v 3)]⟩
noncomputable def vars_sweep_stores:List String:=["func","addresses","taken","is_changed","block","kept","step"]
noncomputable def f_sweep_func:FnDef:=⟨1,4,[
 .asgT [2,3] (.call 17 [.v 0]),
 .asg 1 (.call 24 [.v 0,.v 2]),
 .iff (.call 28 [.v 0,.v 2,.v 3]) [
  .asg 1 (.bool true)] [],
 .ret (.v 1)]⟩
noncomputable def vars_sweep_func:List String:=["func","is_changed","addresses","taken"]
noncomputable def f_law_draw:FnDef:=⟨2,6,[
 .asgT [3,4,5] (.v 0),
 .asg 2 (.ife (.cmp .lt (.v 4) (.len (.v 3))) (.idx (.v 3) (.v 4)) (.v 5)),
 .asgI (.v 0) (.int 1) (.bin .add (.v 4) (.int 1)),
 .asgI (.v 0) (.int 2) (.bin .mod (.bin .add (.bin .add (.bin .add (.bin .mul (.v 5) (.int 37)) (.bin .mod (.v 2) (.int 97))) (.bin .mul (.v 4) (.int 3))) (.int 5)) (.int 1009)),
 .ret (.bin .mod (.v 2) (.v 1))]⟩
noncomputable def vars_law_draw:List String:=["well","size","pick","numbers","at","stir"]
noncomputable def f_law_any:FnDef:=⟨1,2,[
 .asg 1 (.call 30 [.v 0,.int 5]),
 .ret (.ife (.cmp .lt (.v 1) (.int 4)) (.tup [.str "r",.bin .add (.int 7) (.v 1)]) (.tup [.str "k",.idx (.glob 2) (.call 30 [.v 0,.int 8])]))]⟩
noncomputable def vars_law_any:List String:=["well","pick"]
noncomputable def f_law_access:FnDef:=⟨4,4,[
 .iff (.cmp .eq (.call 30 [.v 0,.int 2]) (.int 0)) [
  .ret (.tup [.str "store",.int (-1),.lst true [.tup [.str "r",.v 1],.call 31 [.v 0]],.v 2,.v 3])] [],
 .ret (.tup [.str "load",.bin .add (.int 7) (.call 30 [.v 0,.int 4]),.lst true [.tup [.str "r",.v 1]],.tup [.v 2,.cmp .eq (.call 30 [.v 0,.int 2]) (.int 1)],.v 3])]⟩
noncomputable def vars_law_access:List String:=["well","home","width","firm"]
noncomputable def f_law_reach:FnDef:=⟨3,4,[
 .asg 3 (.call 30 [.v 0,.int 4]),
 .iff (.cmp .eq (.v 3) (.int 0)) [
  .ex (.append (.v 2) (.tup [.str "load",.v 1,.lst true [.tup [.str "r",.int 4]],.tup [.int 4,.bool false],.bool false]))] [
  .iff (.cmp .eq (.v 3) (.int 1)) [
   .ex (.append (.v 2) (.tup [.str "copy",.v 1,.lst true [.tup [.str "r",.bin .add (.int 2) (.call 30 [.v 0,.int 2])]],.int 0,.bool false]))] [
   .iff (.cmp .eq (.v 3) (.int 2)) [
    .ex (.append (.v 2) (.tup [.str "add",.v 1,.lst true [.tup [.str "r",.int 2],.tup [.str "k",.int 4]],.int 0,.bool false]))] [
    .ex (.append (.v 2) (.tup [.str "copy",.v 1,.lst true [.tup [.str "r",.int 1]],.int 0,.bool false]))]]],
 .ex (.append (.v 2) (.call 32 [.v 0,.v 1,.idx (.tup [.int 4,.int 1,.int 2]) (.call 30 [.v 0,.int 3]),.cmp .eq (.call 30 [.v 0,.int 6]) (.int 5)]))]⟩
noncomputable def vars_law_reach:List String:=["well","fresh","rows","pick"]
noncomputable def f_law_line:FnDef:=⟨3,10,[
 .asg 3 (.call 30 [.v 0,.int 11]),
 .iff (.cmp .eq (.v 3) (.int 0)) [
  .asg 4 (.idx (.tup [.int 0,.int 1,.int 3]) (.call 30 [.v 0,.int 3])),
  .asg 5 (.ife (.cmp .lt (.v 4) (.int 3)) (.idx (.tup [.int 4,.int 1,.int 2]) (.call 30 [.v 0,.int 3])) (.bin .add (.int 1) (.call 30 [.v 0,.int 2]))),
  .ex (.append (.v 2) (.call 32 [.v 0,.bin .add (.int 2) (.v 4),.v 5,.bool false]))] [
  .iff (.or (.cmp .eq (.v 3) (.int 1)) (.cmp .eq (.v 3) (.int 2))) [
   .ex (.append (.v 2) (.tup [.str "store",.int (-1),.lst true [.tup [.str "r",.int 4],.tup [.str "r",.idx (.tup [.int 2,.int 3,.int 6]) (.call 30 [.v 0,.int 3])]],.int 4,.bool false]))] [
   .iff (.or (.cmp .eq (.v 3) (.int 3)) (.cmp .eq (.v 3) (.int 4))) [
    .ex (.call 33 [.v 0,.v 1,.v 2])] [
    .iff (.cmp .eq (.v 3) (.int 5)) [
     .asg 6 (.idx (.tup [.int 1,.int 6]) (.call 30 [.v 0,.int 2])),
     .ex (.append (.v 2) (.call 32 [.v 0,.v 6,.idx (.tup [.int 4,.int 1,.int 2]) (.call 30 [.v 0,.int 3]),.cmp .eq (.call 30 [.v 0,.int 3]) (.int 2)]))] [
     .iff (.cmp .eq (.v 3) (.int 6)) [
      .ex (.append (.v 2) (.call 32 [.v 0,.int 5,.int 4,.bool false]))] [
      .iff (.cmp .eq (.v 3) (.int 7)) [
       .ex (.append (.v 2) (.call 32 [.v 0,.bin .add (.int 2) (.call 30 [.v 0,.int 2]),.idx (.tup [.int 4,.int 1,.int 2]) (.call 30 [.v 0,.int 3]),.bool true]))] [
       .iff (.cmp .eq (.v 3) (.int 8)) [
        .asg 7 (.lst true [.tup [.str "r",.idx (.tup [.int 2,.int 3,.int 6]) (.call 30 [.v 0,.int 3])],.tup [.str "r",.idx (.tup [.int 2,.int 3,.int 1]) (.call 30 [.v 0,.int 3])]]),
        .ex (.append (.v 2) (.tup [.str "move",.int (-1),.v 7,.tup [.int 4,.int 4],.cmp .eq (.call 30 [.v 0,.int 4]) (.int 3)]))] [
        .iff (.cmp .eq (.v 3) (.int 9)) [
         .asg 8 (.bin .add (.int 7) (.call 30 [.v 0,.int 4])),
         .asg 9 (.idx (.tup [.str "add",.str "xor",.str "mul",.str "divu",.str "ltu"]) (.call 30 [.v 0,.int 5])),
         .ex (.append (.v 2) (.tup [.v 9,.v 8,.lst true [.call 31 [.v 0],.call 31 [.v 0]],.int 0,.bool false]))] [
         .asg 8 (.bin .add (.int 7) (.call 30 [.v 0,.int 4])),
         .iff (.cmp .eq (.call 30 [.v 0,.int 2]) (.int 0)) [
          .ex (.append (.v 2) (.tup [.str "call",.v 8,.lst true [.call 31 [.v 0]],.str "see",.bool false]))] [
          .ex (.append (.v 2) (.tup [.str "call",.v 8,.lst true [.tup [.str "r",.idx (.tup [.int 2,.int 3,.int 1]) (.call 30 [.v 0,.int 3])]],.str "poke",.bool false]))]]]]]]]]]]⟩
noncomputable def vars_law_line:List String:=["well","fresh","rows","pick","which","width","home","ends","goal","op"]
noncomputable def f_law_program:FnDef:=⟨1,11,[
 .asg 1 (.bin .add (.lst true [.idx (.tup [.int 7,.int 3,.int 1]) (.call 30 [.v 0,.int 3]),.int 8192]) (.comp true (.idx (.glob 2) (.call 30 [.v 0,.int 8])) (.one 9) .range [.int 4] [] [0])),
 .asg 2 (.call 30 [.v 0,.int 4]),
 .asg 3 (.lst false [.comp false (.tup [.str "slot",.bin .add (.int 2) (.v 10),.lst true [],.v 10,.bool false]) (.one 10) .range [.int 4] [] [],.lst false [],.lst false [],.lst false []]),
 .ex (.append (.idx (.v 3) (.int 0)) (.tup [.str "name",.int 6,.lst true [],.tup [.str "g",.int 0],.bool false])),
 .ex (.append (.idx (.v 3) (.int 0)) (.tup [.str "store",.int (-1),.lst true [.tup [.str "r",.int 4],.tup [.str "r",.int 6]],.int 4,.bool false])),
 .asg 4 (.int 11),
 .forr (.one 5) .range [.int 1,.int 4] [
  .iff (.cmp .eq (.v 2) (.v 5)) [
   .ex (.append (.idx (.v 3) (.v 5)) (.tup [.str "slot",.int 1,.lst true [],.int 0,.bool false]))] [],
  .forr (.one 8) .range [.bin .add (.int 1) (.call 30 [.v 0,.int 3])] [
   .ex (.call 34 [.v 0,.v 4,.idx (.v 3) (.v 5)]),
   .asg 4 (.bin .add (.v 4) (.int 1))]],
 .ex (.append (.idx (.v 3) (.int 2)) (.tup [.str "shr",.int 0,.lst true [.tup [.str "r",.int 0],.tup [.str "k",.int 1]],.int 0,.bool false])),
 .asg 6 (.tup [.str "jump",.lst true [],.int 2]),
 .iff (.cmp .eq (.call 30 [.v 0,.int 2]) (.int 1)) [
  .asg 6 (.tup [.str "branch",.lst true [.tup [.str "r",.bin .add (.int 7) (.call 30 [.v 0,.int 4])]],.tup [.int 2,.int 3]])] [],
 .asg 7 (.tup [.str "give",.lst true [.tup [.str "r",.bin .add (.int 7) (.call 30 [.v 0,.int 4])]],.int 0]),
 .ghost,
 .ret (.tup [.v 3,.lst true [.tup [.str "jump",.lst true [],.int 1],.v 6,.tup [.str "branch",.lst true [.tup [.str "r",.int 0]],.tup [.int 1,.int 3]],.v 7],.v 1])]⟩
noncomputable def vars_law_program:List String:=["well","given","led_at","parts","fresh","at","middle","last","turn","number","which"]
noncomputable def f_law_body:FnDef:=⟨2,12,[
 .asg 2 (.mk 2 [.str "drawn"]),
 .asgA (.v 2) 2 1 (.lst true [.int 0,.int 1,.int 7,.int 8,.int 9,.int 10]),
 .asgA (.v 2) 2 3 (.lst true [.tup [.int 8,.int 4],.tup [.int 4,.int 4],.tup [.int 4,.int 4],.tup [.int 2,.int 2]]),
 .asgA (.v 2) 2 5 (.int 21),
 .asgA (.v 2) 2 6 (.bool true),
 .forr (.many [3,4]) .enum [.v 0] [
  .asg 5 (.mk 1 [.v 3]),
  .forr (.many [6,7,8,9,10]) .plain [.v 4] [
   .asg 11 (.mk 0 [.v 6,.v 7,.listOf (.v 8),.v 9]),
   .asgA (.v 11) 0 4 (.v 10),
   .ghost,
   .ex (.append (.attr (.v 5) 1 1) (.v 11))],
  .asgT [6,8,9] (.idx (.v 1) (.v 3)),
  .asgA (.v 5) 1 2 (.mk 0 [.v 6,.int (-1),.listOf (.v 8),.v 9]),
  .ghost,
  .ex (.append (.attr (.v 2) 2 4) (.v 5))],
 .ghost,
 .ret (.v 2)]⟩
noncomputable def vars_law_body:List String:=["parts","ends","body","number","rows","block","op","dst","args","more","firm","act"]
noncomputable def f_law_listing:FnDef:=⟨1,4,[
 .asg 1 (.lst false []),
 .forr (.one 2) .plain [.attr (.v 0) 2 4] [
  .ex (.append (.v 1) (.comp true (.tup [.attr (.v 3) 0 0,.attr (.v 3) 0 1,.listOf (.attr (.v 3) 0 2),.attr (.v 3) 0 3,.attr (.v 3) 0 4]) (.one 3) .plain [.attr (.v 2) 1 1] [] []))],
 .ghost,
 .ret (.tup [.v 1,.comp true (.tup [.attr (.attr (.v 2) 1 2) 0 0,.listOf (.attr (.attr (.v 2) 1 2) 0 2),.attr (.attr (.v 2) 1 2) 0 3]) (.one 2) .plain [.attr (.v 0) 2 4] [] []])]⟩
noncomputable def vars_law_listing:List String:=["body","rows","block","act"]
noncomputable def f_law_get:FnDef:=⟨3,5,[
 .asg 3 (.int 0),
 .forr (.one 4) .range [.v 2] [
  .asg 3 (.bin .add (.v 3) (.bin .mul (.get (.v 0) (.bin .add (.v 1) (.v 4)) (.int 0)) (.bin .pow (.int 256) (.v 4))))],
 .ret (.v 3)]⟩
noncomputable def vars_law_get:List String:=["memory","start","width","found","place"]
noncomputable def f_law_lay:FnDef:=⟨4,5,[
 .forr (.one 4) .range [.v 2] [
  .asgI (.v 0) (.bin .add (.v 1) (.v 4)) (.bin .mod (.bin .div (.v 3) (.bin .pow (.int 256) (.v 4))) (.int 256))]]⟩
noncomputable def vars_law_lay:List String:=["memory","start","width","value","place"]
noncomputable def f_law_is_own:FnDef:=⟨2,4,[
 .asgT [2,3] (.idx (.v 0) (.int 0)),
 .ret (.and (.cmp .eq (.v 2) (.str "r")) (.and (.cmp2 .le .lt (.int 2) (.v 3) (.int 6)) (.cmp .le (.v 1) (.idx (.glob 4) (.bin .sub (.v 3) (.int 2))))))]⟩
noncomputable def vars_law_is_own:List String:=["args","width","kind","home"]
noncomputable def f_law_do:FnDef:=⟨5,11,[
 .asgT [6,7,8,9,10] (.v 0),
 .asg 5 (.int 0),
 .iff (.cmp .eq (.v 6) (.str "slot")) [
  .asg 5 (.idx (.glob 3) (.v 9))] [
  .iff (.cmp .eq (.v 6) (.str "name")) [
   .asg 5 (.int 8192)] [
   .iff (.cmp .eq (.v 6) (.str "load")) [
    .asg 5 (.call 38 [.v 3,.idx (.v 1) (.int 0),.idx (.v 9) (.int 0)]),
    .iff (.or (.v 10) (.not (.call 40 [.v 8,.idx (.v 9) (.int 0)]))) [
     .ex (.append (.v 4) (.tup [.v 6,.idx (.v 1) (.int 0),.idx (.v 9) (.int 0),.v 5,.v 10]))] [],
    .iff (.and (.idx (.v 9) (.int 1)) (.cmp .ge (.bin .mul (.v 5) (.int 2)) (.bin .pow (.int 256) (.idx (.v 9) (.int 0))))) [
     .asg 5 (.bin .sub (.v 5) (.bin .pow (.int 256) (.idx (.v 9) (.int 0))))] []] [
    .iff (.cmp .eq (.v 6) (.str "store")) [
     .ex (.call 39 [.v 3,.idx (.v 1) (.int 0),.v 9,.idx (.v 1) (.int 1)]),
     .iff (.or (.v 10) (.not (.call 40 [.v 8,.v 9]))) [
      .ex (.append (.v 4) (.tup [.v 6,.idx (.v 1) (.int 0),.v 9,.idx (.v 1) (.int 1),.v 10]))] []] [
     .iff (.cmp .eq (.v 6) (.str "move")) [
      .ex (.call 39 [.v 3,.idx (.v 1) (.int 0),.int 4,.call 38 [.v 3,.idx (.v 1) (.int 1),.int 4]]),
      .ex (.append (.v 4) (.tup [.v 6,.idx (.v 1) (.int 0),.idx (.v 1) (.int 1),.v 10]))] [
      .iff (.cmp .eq (.v 6) (.str "call")) [
       .asg 5 (.bin .add (.idx (.v 1) (.int 0)) (.int 3)),
       .iff (.cmp .eq (.v 9) (.str "poke")) [
        .asg 5 (.call 38 [.v 3,.idx (.v 1) (.int 0),.int 4]),
        .ex (.call 39 [.v 3,.idx (.v 1) (.int 0),.int 4,.bin .add (.bin .mul (.v 5) (.int 5)) (.int 1)])] [],
       .ex (.append (.v 4) (.tup [.v 9,.idx (.v 1) (.int 0),.v 5]))] [
       .iff (.cmp .eq (.v 6) (.str "divu")) [
        .iff (.or (.cmp .eq (.idx (.idx (.v 8) (.int 1)) (.int 0)) (.str "r")) (.cmp .eq (.idx (.v 1) (.int 1)) (.int 0))) [
         .ex (.append (.v 4) (.tup [.v 6,.idx (.v 1) (.int 0),.idx (.v 1) (.int 1)]))] [],
        .iff (.cmp .eq (.idx (.v 1) (.int 1)) (.int 0)) [
         .ret (.bool false)] [],
        .asg 5 (.bin .div (.idx (.v 1) (.int 0)) (.idx (.v 1) (.int 1)))] [
        .iff (.cmp .eq (.v 6) (.str "copy")) [
         .asg 5 (.idx (.v 1) (.int 0))] [
         .iff (.cmp .eq (.v 6) (.str "shr")) [
          .asg 5 (.bin .div (.idx (.v 1) (.int 0)) (.bin .pow (.int 2) (.idx (.v 1) (.int 1))))] [
          .iff (.cmp .eq (.v 6) (.str "ltu")) [
           .asg 5 (.ife (.cmp .lt (.idx (.v 1) (.int 0)) (.idx (.v 1) (.int 1))) (.int 1) (.int 0))] [
           .iff (.cmp .eq (.v 6) (.str "xor")) [
            .asg 5 (.bin .xor (.idx (.v 1) (.int 0)) (.idx (.v 1) (.int 1)))] [
            .iff (.cmp .eq (.v 6) (.str "mul")) [
             .asg 5 (.bin .mul (.idx (.v 1) (.int 0)) (.idx (.v 1) (.int 1)))] [
             .asg 5 (.bin .add (.idx (.v 1) (.int 0)) (.idx (.v 1) (.int 1)))]]]]]]]]]]]],
 .iff (.cmp .ge (.v 7) (.int 0)) [
  .asgI (.v 2) (.v 7) (.bin .mod (.v 5) (.int 4294967296))] [],
 .ret (.bool true)]⟩
noncomputable def vars_law_do:List String:=["row","given","kept","memory","trail","value","op","dst","args","more","firm"]
noncomputable def f_law_play:FnDef:=⟨3,17,[
 .asgT [5,6,7,8] (.tup [.dict0,.dict0,.lst false [],.int 0]),
 .forr (.many [3,9]) .enum [.tup [.int 0,.int 1,.int 7,.int 8,.int 9,.int 10]] [
  .asgI (.v 5) (.v 9) (.idx (.v 2) (.v 3))],
 .forr (.one 3) .range [.int 8] [
  .asgI (.v 6) (.bin .add (.int 8192) (.v 3)) (.bin .add (.bin .mul (.int 17) (.v 3)) (.int 1))],
 .forr (.one 4) .range [.int 40] [
  .forr (.one 10) .plain [.idx (.v 0) (.v 8)] [
   .asg 11 (.comp true (.ife (.cmp .eq (.v 15) (.str "r")) (.idx (.v 5) (.v 16)) (.v 16)) (.many [15,16]) .plain [.idx (.v 10) (.int 2)] [] [5]),
   .iff (.not (.call 41 [.v 10,.v 11,.v 5,.v 6,.v 7])) [
    .ghost,
    .ret (.tup [.str "division",.call 38 [.v 6,.int 8192,.int 8],.v 7])] []],
  .asgT [12,13,14] (.idx (.v 1) (.v 8)),
  .iff (.cmp .eq (.v 12) (.str "give")) [
   .ghost,
   .ret (.tup [.idx (.v 5) (.idx (.idx (.v 13) (.int 0)) (.int 1)),.call 38 [.v 6,.int 8192,.int 8],.v 7])] [],
  .iff (.cmp .eq (.v 12) (.str "jump")) [
   .asg 8 (.v 14)] [
   .asg 8 (.ife (.cmp .eq (.idx (.v 5) (.idx (.idx (.v 13) (.int 0)) (.int 1))) (.int 0)) (.idx (.v 14) (.int 1)) (.idx (.v 14) (.int 0)))]],
 .ghost,
 .ret (.tup [.str "long",.int 0,.v 7])]⟩
noncomputable def vars_law_play:List String:=["parts","ends","words_in","place","turn","kept","memory","trail","at","number","row","given","op","args","more","kind","pick"]
noncomputable def f_law_is_less:FnDef:=⟨2,8,[
 .asg 2 (.int 0),
 .forr (.many [3,4,5,6,7]) .plain [.v 1] [
  .iff (.cmp .lt (.v 2) (.len (.v 0))) [
   .iff (.and (.cmp .isin (.idx (.v 0) (.v 2)) (.lst true [.tup [.v 3,.v 4,.v 5,.v 6,.v 7],.tup [.str "call",.int (-1),.v 5,.v 6,.v 7]])) (.cmp .eq (.idx (.idx (.v 0) (.v 2)) (.int 0)) (.v 3))) [
    .asg 2 (.bin .add (.v 2) (.int 1))] []] []],
 .ret (.cmp .eq (.v 2) (.len (.v 0)))]⟩
noncomputable def vars_law_is_less:List String:=["left","was","place","op","dst","args","more","firm"]
noncomputable def f_law_is_swept:FnDef:=⟨2,15,[
 .asg 2 .dict0,
 .asg 3 .dict0,
 .forr (.many [5,4]) .enum [.v 0] [
  .forr (.many [7,8,9,10,11]) .plain [.v 4] [
   .forr (.many [13,6]) .enum [.v 9] [
    .iff (.and (.cmp .eq (.v 7) (.str "store")) (.and (.cmp .eq (.v 13) (.int 0)) (.and (.not (.v 11)) (.call 40 [.v 9,.v 10])))) [
     .asgI (.v 3) (.idx (.v 6) (.int 1)) (.bool true)] [
     .iff (.cmp .eq (.idx (.v 6) (.int 0)) (.str "r")) [
      .asgI (.v 2) (.idx (.v 6) (.int 1)) (.bool true)] []]]],
  .forr (.one 6) .plain [.idx (.idx (.v 1) (.v 5)) (.int 1)] [
   .asgI (.v 2) (.idx (.v 6) (.int 1)) (.bool true)]],
 .forr (.one 4) .plain [.v 0] [
  .forr (.many [7,8,9,10,11]) .plain [.v 4] [
   .iff (.and (.cmp .eq (.v 7) (.str "slot")) (.cmp .eq (.v 8) (.int 1))) [
    .asgI (.v 2) (.bin .add (.int 2) (.v 10)) (.bool true)] [],
   .asg 12 (.or (.cmp .isin (.v 7) (.tup [.str "copy",.str "add",.str "xor",.str "mul",.str "ltu",.str "name"])) (.and (.cmp .eq (.v 7) (.str "slot")) (.cmp .notin (.v 8) (.v 3)))),
   .iff (.and (.cmp .eq (.v 7) (.str "load")) (.and (.not (.v 11)) (.call 40 [.v 9,.idx (.v 10) (.int 0)]))) [
    .asg 12 (.bool true)] [],
   .iff (.and (.v 12) (.cmp .notin (.v 8) (.v 2))) [
    .ret (.bool false)] []]],
 .ret (.all (.comp true (.cmp .isin (.v 14) (.v 2)) (.one 14) .plain [.sorted (.v 3)] [] [2]))]⟩
noncomputable def vars_law_is_swept:List String:=["parts","ends","named","stored","rows","at","pair","op","dst","args","more","firm","is_vain","place","number"]
noncomputable def f_law:FnDef:=⟨1,12,[
 .asgT [5,6,7] (.call 35 [.lst false [.comp true (.bin .mod (.v 10) (.int 2147483647)) (.one 10) .plain [.upto (.v 0) 60] [] [],.int 0,.int 500]]),
 .asg 1 (.call 42 [.v 5,.v 6,.v 7]),
 .asg 2 (.call 36 [.v 5,.v 6]),
 .asg 3 (.v 5),
 .asg 4 (.bool true),
 .whl (.v 4) [
  .asg 8 (.v 3),
  .asg 4 (.call 29 [.v 2]),
  .asgT [3,9] (.call 37 [.v 2]),
  .iff (.or (.not (.isBool (.v 4))) (.or (.cmp .ne (.v 4) (.cmp .ne (.v 3) (.v 8))) (.cmp .ne (.v 9) (.v 6)))) [
   .ret (.bool false)] [],
  .iff (.not (.all (.comp true (.call 43 [.idx (.v 3) (.v 11),.idx (.v 8) (.v 11)]) (.one 11) .range [.int 4] [] [3,8]))) [
   .ret (.bool false)] []],
 .tryp [
  .ex (.call 8 [.v 2])],
 .ret (.and (.call 44 [.v 3,.v 6]) (.cmp .eq (.call 42 [.v 3,.v 6,.v 7]) (.v 1)))]⟩
noncomputable def vars_law:List String:=["script","due","body","left","is_new","parts","ends","words_in","was","ends_left","number","at"]
noncomputable def f_init_Step:FnDef:=⟨5,5,[
 .asgA (.v 0) 0 0 (.v 1),
 .asgA (.v 0) 0 1 (.v 2),
 .asgA (.v 0) 0 2 (.v 3),
 .asgA (.v 0) 0 3 (.v 4),
 .asgA (.v 0) 0 4 (.bool false),
 .asgA (.v 0) 0 5 (.int 0)]⟩
noncomputable def vars_init_Step:List String:=["self","op","dst","args","more"]
noncomputable def f_init_Block:FnDef:=⟨2,2,[
 .asgA (.v 0) 1 0 (.v 1),
 .asgA (.v 0) 1 1 (.lst false []),
 .asgA (.v 0) 1 2 .none]⟩
noncomputable def vars_init_Block:List String:=["self","number"]
noncomputable def f_init_Func:FnDef:=⟨2,2,[
 .asgA (.v 0) 2 0 (.v 1),
 .asgA (.v 0) 2 1 (.lst true []),
 .asgA (.v 0) 2 2 (.bool false),
 .asgA (.v 0) 2 3 (.lst true []),
 .asgA (.v 0) 2 4 (.lst false []),
 .asgA (.v 0) 2 5 (.int 0),
 .asgA (.v 0) 2 6 (.bool false)]⟩
noncomputable def vars_init_Func:List String:=["self","name"]
noncomputable def names:List String:=["followers","check_operand","wanted_args","check_more","check_step","check_end","set_at_ends","check_set","check_func","has_effect","can_fault","is_plain","preds","postorder","in_place_of","slot_steps","times_set","slot_registers","is_free","need_ahead","need_behind","needs_ahead","without_register","swept_steps","sweep_steps","is_plain_store","taken_slots","is_store_to","sweep_stores","sweep_func","_law_draw","_law_any","_law_access","_law_reach","_law_line","_law_program","_law_body","_law_listing","_law_get","_law_lay","_law_is_own","_law_do","_law_play","_law_is_less","_law_is_swept","law","init_Step","init_Block","init_Func"]
noncomputable def tabP (n:Nat):Option FnDef:=
 List.rec (motive:=λx_=>Nat→Option FnDef) (λx_=>none) (λd x_ ih n=>Nat.casesOn n (some d) ih) [f_followers,f_check_operand,f_wanted_args,f_check_more,f_check_step,f_check_end,f_set_at_ends,f_check_set,f_check_func,f_has_effect,f_can_fault,f_is_plain,f_preds,f_postorder,f_in_place_of,f_slot_steps,f_times_set,f_slot_registers,f_is_free,f_need_ahead,f_need_behind,f_needs_ahead,f_without_register,f_swept_steps,f_sweep_steps,f_is_plain_store,f_taken_slots,f_is_store_to,f_sweep_stores,f_sweep_func,f_law_draw,f_law_any,f_law_access,f_law_reach,f_law_line,f_law_program,f_law_body,f_law_listing,f_law_get,f_law_lay,f_law_is_own,f_law_do,f_law_play,f_law_is_less,f_law_is_swept,f_law,f_init_Step,f_init_Block,f_init_Func] n
noncomputable def varsP (n:Nat):List String:=
 List.rec (motive:=λx_=>Nat→List String) (λx_=>[]) (λd x_ ih n=>Nat.casesOn n d ih) [vars_followers,vars_check_operand,vars_wanted_args,vars_check_more,vars_check_step,vars_check_end,vars_set_at_ends,vars_check_set,vars_check_func,vars_has_effect,vars_can_fault,vars_is_plain,vars_preds,vars_postorder,vars_in_place_of,vars_slot_steps,vars_times_set,vars_slot_registers,vars_is_free,vars_need_ahead,vars_need_behind,vars_needs_ahead,vars_without_register,vars_swept_steps,vars_sweep_steps,vars_is_plain_store,vars_taken_slots,vars_is_store_to,vars_sweep_stores,vars_sweep_func,vars_law_draw,vars_law_any,vars_law_access,vars_law_reach,vars_law_line,vars_law_program,vars_law_body,vars_law_listing,vars_law_get,vars_law_lay,vars_law_is_own,vars_law_do,vars_law_play,vars_law_is_less,vars_law_is_swept,vars_law,vars_init_Step,vars_init_Block,vars_init_Func] n
end Mine.Internal
namespace Mine.Internal
open PySem PySem.W PyProof.Rows
structure Glo where
 prog:Program
 w:World
 h0:Heap
 cls:Nat→Addr
 K:Frag
 mg:Str→Option Value
 mb:Str→Option Value
noncomputable def strOfV:Value→Option Str:=@λy_1=>match @y_1 with
 |.str s x_1=>some s
 |x_1=>none
noncomputable def KeysAre (names:List String) (es:List DictEntry):Prop:=es.map (λe=>strOfV e.key)=names.map λn=>some (Str.ofString n)
mutual
inductive VRel (G:Glo)(F:Nat→Prop)(h:Heap):AV→Value→Prop
 |none:VRel G F h .none .none
 |bool (b:Bool):VRel G F h (.bool b) (.bool b)
 |int (i:Int) (t:Tok):VRel G F h (.int i) (.int i t)
 |str (s:String) (t:Tok):VRel G F h (.str s) (.str (Str.ofString s) t)
 |tup {xs:List AV} {a:Nat} {vs:List Value} {n:Nat}:F a→h.get? a=some { cls:=.type "tuple",data:=.seq vs.toArray n }→vs.length≤1048576→VRels G F h xs vs→VRel G F h (.tup xs) (.ref a)
 |lst {xs:List AV} {a:Nat} {vs:List Value} {n:Nat}:F a→h.get? a=some { cls:=.type "list",data:=.seq vs.toArray n }→vs.length≤1048576→VRels G F h xs vs→VRel G F h (.lst xs) (.ref a)
 |obj {a d c:Nat} {fs:List AV} {es:List DictEntry} {n:Nat}:F a→F d→h.get? a=some ⟨.ref (G.cls c),some d,.plain,#[]⟩→h.get? d=some (dictOf es n)→KeysAre ((flds c).take es.length) es →
   VRels G F h fs (es.map (·.val))→VRel G F h (.obj a c fs) (.ref a)
 |ref (a:Nat):VRel G F h (.ref a) (.ref a)
inductive VRels (G:Glo)(F:Nat→Prop)(h:Heap):List AV→List Value→Prop
 |nil:VRels G F h [] []
 |cons {x:AV} {v:Value} {xs:List AV} {vs:List Value}:VRel G F h x v→VRels G F h xs vs→VRels G F h (x::xs) (v::vs)
end
section
variable {G:Glo}{F F':Nat→Prop}{h h':Heap}
theorem VRel.mono (hm:∀ a o,F a→h.get? a=some o→h'.get? a=some o∧F' a){x:AV}{v:Value}(r:VRel G F h x v):VRel G F' h' x v:=
 VRel.rec (motive_1:=λx v x_=>VRel G F' h' x v) (motive_2:=λxs vs x_=>VRels G F' h' xs vs) .none .bool .int .str
  (λf g l x_ r=>.tup (hm _ _ f g).2 (hm _ _ f g).1 l r) (λf g l x_ r=>.lst (hm _ _ f g).2 (hm _ _ f g).1 l r)
  (λf f' g g' k x_ r=>.obj (hm _ _ f g).2 (hm _ _ f' g').2 (hm _ _ f g).1 (hm _ _ f' g').1 k r) .ref .nil (λx_ x_ r rs=>.cons r rs) r
theorem VRels.mono (hm:∀ a o,F a→h.get? a=some o→h'.get? a=some o∧F' a){xs:List AV}{vs:List Value}(r:VRels G F h xs vs):VRels G F' h' xs vs:=by
 induction xs generalizing vs with
 |nil=>cases r;exact .nil
 |cons x xs ih=>cases r with|cons r rs=>exact .cons (r.mono hm) (ih rs)
theorem VRel.none_s {v:Value}(r:VRel G F h .none v):v=.none:=by cases r;rfl
theorem VRel.bool_s {b:Bool}{v:Value}(r:VRel G F h (.bool b) v):v=.bool b:=by cases r;rfl
theorem VRel.int_s {i:Int}{v:Value}(r:VRel G F h (.int i) v):∃ t,v=.int i t:=by cases r;exact⟨_,rfl⟩
theorem VRel.str_s {x:String}{v:Value}(r:VRel G F h (.str x) v):∃ t,v=.str (Str.ofString x) t:=by cases r;exact⟨_,rfl⟩
theorem VRel.ref_s {a:Nat}{v:Value}(r:VRel G F h (.ref a) v):v=.ref a:=by cases r;rfl
theorem lst_s {ys:List AV}{v:Value}(r:VRel G F h (.lst ys) v):∃ a vs k,v=.ref a∧F a∧h.get? a=some { cls:=.type "list",data:=.seq (List.toArray vs) k }∧vs.length≤1048576∧VRels G F h ys vs:=by
 cases r with|lst f g l rs=>exact⟨_,_,_,rfl,f,g,l,rs⟩
theorem tup_s {ys:List AV}{v:Value}(r:VRel G F h (.tup ys) v):∃ a vs k,v=.ref a∧F a∧h.get? a=some { cls:=.type "tuple",data:=.seq (List.toArray vs) k }∧vs.length≤1048576∧VRels G F h ys vs:=by
 cases r with|tup f g l rs=>exact⟨_,_,_,rfl,f,g,l,rs⟩
theorem VRels.cons_s {x:AV}{xs:List AV}{vs:List Value}(r:VRels G F h (x::xs) vs):∃ v ws,vs=v::ws∧VRel G F h x v∧VRels G F h xs ws:=by cases r with|cons r rs=>exact⟨_,_,rfl,r,rs⟩
theorem VRels.nil_s {vs:List Value}(r:VRels G F h [] vs):vs=[]:=by cases r;rfl
theorem VRels.length {xs:List AV}{vs:List Value}:VRels G F h xs vs→vs.length=xs.length:=by
 intro r
 induction xs generalizing vs with
 |nil=>cases r;rfl
 |cons x xs ih=>cases r with|cons _ r=>simp[ih r]
theorem VRels.get {xs:List AV}{vs:List Value}(r:VRels G F h xs vs){i:Nat}{x:AV}(hx:xs[i]? = some x):∃ v,vs[i]? = some v∧VRel G F h x v:=by
 induction xs generalizing vs i with
 |nil=>simp at hx
 |cons y xs ih=>
  cases r with
  |cons r0 r=>
   cases i with
   |zero=>simp at hx;subst hx;exact⟨_,rfl,r0⟩
   |succ i=>simp at hx;simpa using ih r hx
theorem VRels.append {xs ys:List AV}{vs ws:List Value}(r:VRels G F h xs vs)(q:VRels G F h ys ws):VRels G F h (xs++ys) (vs++ws):=by
 induction xs generalizing vs with
 |nil=>cases r;exact q
 |cons y xs ih=>cases r with|cons r0 r=>exact .cons r0 (ih r)
theorem VRels.split {xs ys:List AV}{vs:List Value}(r:VRels G F h (xs++ys) vs):∃ ws us,vs=ws++us∧VRels G F h xs ws∧VRels G F h ys us:=by
 induction xs generalizing vs with
 |nil=>exact⟨[],vs,rfl,.nil,r⟩
 |cons y xs ih=>
  cases r with
  |cons r0 r=>
   obtain⟨ws,us,e,a,b⟩:=ih r
   exact⟨_::ws,us,by refine rwI e ?_;rfl,.cons r0 a,b⟩
theorem VRels.set {xs:List AV}{vs:List Value}(r:VRels G F h xs vs){x:AV}{v:Value}(hx:VRel G F h x v)(i:Nat):VRels G F h (xs.set i x) (vs.set i v):=by
 induction xs generalizing vs i with
 |nil=>cases r;exact .nil
 |cons y xs ih=>
  cases r with
  |cons r0 r=>
   cases i with
   |zero=>exact .cons hx r
   |succ i=>exact .cons r0 (ih r i)
theorem VRels.reverse {xs:List AV}{vs:List Value}(r:VRels G F h xs vs):VRels G F h xs.reverse vs.reverse:=by
 induction xs generalizing vs with
 |nil=>cases r;exact .nil
 |cons y xs ih=>cases r with|cons r0 r=>(refine rwI List.reverse_cons ?_;refine rwI List.reverse_cons ?_);exact (ih r).append (.cons r0 .nil)
theorem VRels.take {xs:List AV}{vs:List Value}(r:VRels G F h xs vs)(n:Nat):VRels G F h (xs.take n) (vs.take n):=by
 induction xs generalizing vs n with
 |nil=>cases r;simp;exact .nil
 |cons y xs ih=>
  cases r with
  |cons r0 r=>
   cases n with
   |zero=>exact .nil
   |succ n=>exact .cons r0 (ih r n)
end
noncomputable def TabOk (t:SetTable):Prop:=t.fill=0→t.mask=7
noncomputable def cntI (m:Int→Bool):Nat:=(List.range 32).countP λi=>m (Int.ofNat i)
noncomputable def SetRel (G:Glo) (h:Heap) (a:Nat) (m:Int→Bool):Prop:=
 h.SetOf (intKind G.prog G.w) a m (cntI m)∧(∀ i,m i=true→0≤i∧i < 32)∧∃ o es ep t,h.get? a=some o∧o.data=.set es ep t∧TabOk t
noncomputable def ObjRel (G:Glo) (F:Nat→Prop) (h:Heap) (a:Nat):AObj→Prop:=@λy_1=>match @y_1 with
 |.list xs=>∃ vs n,h.get? a=some { cls:=.type "list",data:=.seq vs.toArray n }∧vs.length≤1048576∧VRels G F h xs vs
 |.dict es=>∃ kvs,h.DictOf (intKind G.prog G.w) a kvs∧kvs.length≤1048576∧kvs.map (·.1)=es.map (·.1)∧VRels G F h (es.map (·.2)) (kvs.map (·.2))
 |.set m=>SetRel G h a m
 |.inst c d=>h.get? a=some ⟨.ref (G.cls c),some d,.plain,#[]⟩
 |.ns c fs=>∃ es n,h.get? a=some (dictOf es n)∧KeysAre ((flds c).take es.length) es∧VRels G F h fs (es.map (·.val))
theorem SetRel.at {G:Glo}{h h':Heap}{a:Nat}{m:Int→Bool}(r:SetRel G h a m)(e:∀ o,h.get? a=some o→h'.get? a=some o):SetRel G h' a m:=by
 obtain⟨⟨o,es,ep,t,ho,q⟩,b,o',es',ep',t',ho',q'⟩:=r
 exact⟨⟨o,es,ep,t,e _ ho,q⟩,b,o',es',ep',t',e _ ho',q'⟩
theorem ObjRel.alive {G:Glo}{F:Nat→Prop}{h:Heap}{a:Nat}{o:AObj}(r:ObjRel G F h a o):∃ ob,h.get? a=some ob:=by
 cases o with
 |list xs=>obtain⟨_,_,e,_⟩:=r;exact⟨_,e⟩
 |dict es=>obtain⟨_,⟨o,_,_,e,_⟩,_⟩:=r;exact⟨_,e⟩
 |set m=>obtain⟨⟨o,_,_,_,e,_⟩,_⟩:=r;exact⟨_,e⟩
 |inst c d=>exact⟨_,r⟩
 |ns c fs=>obtain⟨_,_,e,_⟩:=r;exact⟨_,e⟩
theorem ObjRel.mono {G:Glo}{F F':Nat→Prop}{h h':Heap}{a:Nat}{o:AObj}(hm:∀ a o,F a→h.get? a=some o→h'.get? a=some o∧F' a)
  (e:∀ o,h.get? a=some o→h'.get? a=some o) (r:ObjRel G F h a o):ObjRel G F' h' a o:=by
 cases o with
 |list xs=>obtain⟨vs,n,g,l,q⟩:=r;exact⟨vs,n,e _ g,l,q.mono hm⟩
 |dict es=>obtain⟨kvs,⟨o,es',ep,g,q⟩,l,k,p⟩:=r;exact⟨kvs,⟨o,es',ep,e _ g,q⟩,l,k,p.mono hm⟩
 |set m=>exact SetRel.at r e
 |inst c d=>exact e _ r
 |ns c fs=>obtain⟨es,n,g,k,q⟩:=r;exact⟨es,n,e _ g,k,q.mono hm⟩
noncomputable def Fz (H:AHeap) (X:Nat→Prop) (a:Nat):Prop:=H a=none∧¬ X a
structure Inv (G:Glo)(X:Nat→Prop)(H:AHeap)(h:Heap):Prop where
 objs:∀ a o,H a=some o→ObjRel G (Fz H X) h a o
 base:∀ b o,G.h0.get? b=some o→h.get? b=some o∧H b=none∧¬ X b
 xs:∀ b,X b→H b=none∧∃ o,h.get? b=some o
 low:∀ b o,H b=some o→mainGlobals < b
noncomputable def Steps (O:Nat→Prop) (H:AHeap) (h:Heap) (H':AHeap) (h':Heap):Prop:=∀ b o,h.get? b=some o→H b=none→¬ O b→h'.get? b=some o∧H' b=none
noncomputable def No:Nat→Prop:=λx_=>False
theorem Steps.refl (O:Nat→Prop)(H:AHeap)(h:Heap):Steps O H h H h:=λx_ x_ e q x_=>⟨e,q⟩
theorem Steps.trans {O:Nat→Prop}{H₁ H₂ H₃:AHeap}{h₁ h₂ h₃:Heap}(a:Steps O H₁ h₁ H₂ h₂)(b:Steps O H₂ h₂ H₃ h₃):Steps O H₁ h₁ H₃ h₃:=
 λx o e q n=>let ⟨e',q'⟩:=a x o e q n;b x o e' q' n
theorem Steps.mono {O O':Nat→Prop}{H H':AHeap}{h h':Heap}(a:Steps O H h H' h')(s:∀ b,O b→O' b):Steps O' H h H' h':=λb o e q n=>a b o e q λx=>n (s b x)
theorem Steps.mv {O X:Nat→Prop}{H H':AHeap}{h h':Heap}(a:Steps O H h H' h')(s:∀ b,O b→X b):∀ b o,Fz H X b→h.get? b=some o→h'.get? b=some o∧Fz H' X b:=
 λb o f e=>let ⟨e',q⟩:=a b o e f.1 λx=>f.2 (s b x);⟨e',q,f.2⟩
noncomputable def Same (s s':Shared):Prop:=s'.gens=s.gens∧s'.os=s.os
theorem Same.refl (s:Shared):Same s s:=⟨rfl,rfl⟩
theorem Same.trans {a b c:Shared}(x:Same a b)(y:Same b c):Same a c:=⟨y.1.trans x.1,y.2.trans x.2⟩
structure St (G:Glo)(X O:Nat→Prop)(H₀:AHeap)(s₀:Shared)(H:AHeap)(s:Shared):Prop where
 inv:Inv G X H s.heap
 steps:Steps O H₀ s₀.heap H s.heap
 same:Same s₀ s
theorem St.start {G:Glo}{X O:Nat→Prop}{H:AHeap}{s:Shared}(i:Inv G X H s.heap):St G X O H s H s:=⟨i,Steps.refl _ _ _,Same.refl _⟩
theorem St.trans {G:Glo}{X O:Nat→Prop}{H₀ H₁ H₂:AHeap}{s₀ s₁ s₂:Shared}(a:St G X O H₀ s₀ H₁ s₁)(b:St G X O H₁ s₁ H₂ s₂):St G X O H₀ s₀ H₂ s₂:=
 ⟨b.inv,a.steps.trans b.steps,a.same.trans b.same⟩
theorem St.weak {G:Glo}{X O O':Nat→Prop}{H₀ H₁:AHeap}{s₀ s₁:Shared}(a:St G X O H₀ s₀ H₁ s₁)(s:∀ b,O b→O' b):St G X O' H₀ s₀ H₁ s₁:=⟨a.inv,a.steps.mono s,a.same⟩
theorem St.toks {G:Glo}{X O:Nat→Prop}{H₀ H:AHeap}{s₀ s:Shared}(a:St G X O H₀ s₀ H s)(t:Nat):St G X O H₀ s₀ H { s with toks:=t }:=⟨a.inv,a.steps,a.same⟩
theorem VRel.step {G:Glo}{X O:Nat→Prop}{H H':AHeap}{h h':Heap}{x:AV}{v:Value}(r:VRel G (Fz H X) h x v)(a:Steps O H h H' h')(s:∀ b,O b→X b):VRel G (Fz H' X) h' x v:=
 r.mono (a.mv s)
theorem VRels.step {G:Glo}{X O:Nat→Prop}{H H':AHeap}{h h':Heap}{x:List AV}{v:List Value}(r:VRels G (Fz H X) h x v)(a:Steps O H h H' h')(s:∀ b,O b→X b):VRels G (Fz H' X) h' x v:=
 r.mono (a.mv s)
section
variable {G:Glo}{X:Nat→Prop}{H:AHeap}{h h':Heap}
theorem Inv.grow (i:Inv G X H h)(hk:∀ b o,h.get? b=some o→h'.get? b=some o):Inv G X H h' where
 objs:=λa o e=>(i.objs a o e).mono (λb o' f g=>⟨hk b o' g,f⟩) (λo' g=>hk a o' g)
 base:=λb o e=>let ⟨x,y,z⟩:=i.base b o e;⟨hk _ _ x,y,z⟩
 xs:=λb x=>let ⟨y,o,e⟩:=i.xs b x;⟨y,o,hk _ _ e⟩
 low:=i.low
theorem Steps.grow {O:Nat→Prop}(hk:∀ b o,h.get? b=some o→h'.get? b=some o):Steps O H h H h':=λb o e q x_=>⟨hk b o e,q⟩
theorem Inv.change {a:Nat}{o o':AObj}(i:Inv G X H h)(ha:H a=some o)(hs:Heap.SameBut a h h')(ho:ObjRel G (Fz (upd H a o') X) h' a o'):Inv G X (upd H a o') h':=by
 have mv:∀ b o,Fz H X b→h.get? b=some o→h'.get? b=some o∧Fz (upd H a o') X b:=λb o f g=>by
  have n:b≠a:=by rintro rfl;rw[f.1] at ha;exact nomatch ha
  exact⟨(hs.2 b n).trans g,(upd_ne _ n).trans f.1,f.2⟩
 have nx:∀ b,X b→b≠a:=λb x e=>by subst e;rw[(i.xs b x).1] at ha;exact nomatch ha
 refine⟨λb ob e=>?_,λb ob e=>?_,λb x=>?_,λb ob e=>?_⟩
 rotate_left 3
 ·by_cases n:b=a
  ·subst n;exact i.low _ _ ha
  ·rw[upd_ne _ n] at e;exact i.low _ _ e
 ·by_cases n:b=a
  ·subst n;rw[upd_self] at e;(replace e:=Option.some.inj e;subst e);exact ho
  ·rw[upd_ne _ n] at e
   exact (i.objs b ob e).mono mv λo'' g=>(hs.2 b n).trans g
 ·obtain⟨x,y,z⟩:=i.base b ob e
  have n:b≠a:=by rintro rfl;rw[y] at ha;cases ha
  exact⟨(hs.2 b n).trans x,(upd_ne _ n).trans y,z⟩
 ·obtain⟨y,ob,e⟩:=i.xs b x
  exact⟨(upd_ne _ (nx b x)).trans y,ob,(hs.2 b (nx b x)).trans e⟩
theorem Steps.change {O:Nat→Prop}{a:Nat}{o o':AObj}(ha:H a=some o)(hs:Heap.SameBut a h h'):Steps O H h (upd H a o') h':=λb ob e q x_=>by
 have n:b≠a:=by rintro rfl;rw[q] at ha;cases ha
 exact⟨(hs.2 b n).trans e,(upd_ne _ n).trans q⟩
theorem Inv.alloc {a:Nat}{o':AObj}(i:Inv G X H h)(la:mainGlobals < a)(ha:h.get? a=none)(hk:∀ b o,h.get? b=some o→h'.get? b=some o)(ho:ObjRel G (Fz (upd H a o') X) h' a o'):Inv G X (upd H a o') h':=by
 have na:∀ b o,h.get? b=some o→b≠a:=λb o g e=>by subst e;rw[ha] at g;exact nomatch g
 refine⟨λb ob e=>?_,λb ob e=>?_,λb x=>?_,λb ob e=>?_⟩
 rotate_left 3
 ·by_cases n:b=a
  ·subst n;exact la
  ·rw[upd_ne _ n] at e;exact i.low _ _ e
 ·by_cases n:b=a
  ·subst n;rw[upd_self] at e;(replace e:=Option.some.inj e;subst e);exact ho
  ·rw[upd_ne _ n] at e
   exact (i.objs b ob e).mono (λc oc f g=>⟨hk c oc g,(upd_ne _ (na c oc g)).trans f.1,f.2⟩) λo'' g=>hk b o'' g
 ·obtain⟨x,y,z⟩:=i.base b ob e
  exact⟨hk _ _ x,(upd_ne _ (na b _ x)).trans y,z⟩
 ·obtain⟨y,ob,e⟩:=i.xs b x
  exact⟨(upd_ne _ (na b _ e)).trans y,ob,hk _ _ e⟩
theorem Steps.alloc {O:Nat→Prop}{a:Nat}{o':AObj}(ha:h.get? a=none)(hk:∀ b o,h.get? b=some o→h'.get? b=some o):Steps O H h (upd H a o') h':=λb ob e q x_=>by
 have n:b≠a:=by rintro rfl;rw[ha] at e;cases e
 exact⟨hk _ _ e,(upd_ne _ n).trans q⟩
theorem Inv.free {a:Nat}(i:Inv G X H h)(ha:h.get? a=none):H a=none∧¬ X a:=by
 refine⟨?_,λx=>?_⟩
 ·cases e:H a with
  |none=>rfl
  |some o=>obtain⟨ob,q⟩:=(i.objs a o e).alive;rw[ha] at q;cases q
 ·obtain⟨_,o,e⟩:=i.xs a x;rw[ha] at e;cases e
theorem get?_size (h:Heap):h.get? h.objs.size=none:=by
 cases e:h.get? h.objs.size with
 |none=>rfl
 |some o=>exact absurd (Heap.lt_size e) (Nat.lt_irrefl _)
theorem push_keeps (h:Heap)(o:Obj):∀ b ob,h.get? b=some ob→(h.push o).get? b=some ob:=λx_ x_ e=>Heap.get?_push_of_some o e
theorem size_free (i:Inv G X H h):H h.objs.size=none∧¬ X h.objs.size:=i.free (get?_size h)
end
structure EnvOk (G:Glo)(X:Nat→Prop)(env:Env)(names:List (Str×NameKind)):Prop where
 kind:env.scope.kind=.function
 nm:env.scope.names=names
 gl:env.globals=mainGlobals
 bi:env.builtins=builtinsNs
 xl:X env.locals
 xc:∀ n c,env.cells.lookup n=some c→X c∧c≠env.locals
 ap:∀ n n' c,env.cells.lookup n=some c→env.cells.lookup n'=some c→n=n'
 hc:∀ n,names.lookup n=some .cell→(env.cells.lookup n).isSome=true
 cr:∃ q,G.h0.CodeRec env.code q
noncomputable def Own (env:Env) (b:Nat):Prop:=b=env.locals∨∃ n,env.cells.lookup n=some b
theorem EnvOk.own {G:Glo}{X:Nat→Prop}{env:Env}{names:List (Str×NameKind)}(e:EnvOk G X env names):∀ b,Own env b→X b:=λb o=>by
 rcases o with rfl|⟨n,h⟩
 ·exact e.xl
 ·exact (e.xc n b h).1
inductive At (env:Env)(h:Heap)(m:Str→Option Value)(nm:Str)(v:Value):Prop where
 |loc:env.kindOf nm=some .local→m nm=some v→At env h m nm v
 |cell {c:Nat}:env.kindOf nm=some .cell→env.cells.lookup nm=some c→h.IsCell c (some v)→At env h m nm v
structure Frm (G:Glo)(X:Nat→Prop)(H:AHeap)(h:Heap)(env:Env)(vars:List Str)(ρ:AEnv):Prop where
 ns:∃ m,h.Ns env.locals m∧∀ i x,gv ρ i=some x→∃ nm v,vars[i]? = some nm∧At env h m nm v∧VRel G (Fz H X) h x v
 cells:∀ n c,env.cells.lookup n=some c→∃ v,h.IsCell c v
section
variable {G:Glo}{X:Nat→Prop}{H H':AHeap}{h h':Heap}{env:Env}{names:List (Str×NameKind)}{vars:List Str}{ρ:AEnv}
theorem Frm.step (f:Frm G X H h env vars ρ)(i:Inv G X H h)(eo:EnvOk G X env names)(a:Steps No H h H' h'):Frm G X H' h' env vars ρ:=by
 obtain⟨⟨m,hn,hv⟩,hc⟩:=f
 have kX:∀ b o,X b→h.get? b=some o→h'.get? b=some o:=λb o x e=>(a b o e (i.xs b x).1 id).1
 have kc:∀ {c v n},env.cells.lookup n=some c→h.IsCell c v→h'.IsCell c v:=λl ⟨o,e,d⟩=>⟨o,kX _ o (eo.xc _ _ l).1 e,d⟩
 refine⟨⟨m,?_,λj x e=>?_⟩,λn c l=>let ⟨v,y⟩:=hc n c l;⟨v,kc l y⟩⟩
 ·obtain⟨o,es,ep,ho,r⟩:=hn
  exact⟨o,es,ep,kX _ o eo.xl ho,r⟩
 ·obtain⟨nm,v,e1,e2,e3⟩:=hv j x e
  refine⟨nm,v,e1,?_,e3.step a λx_ x=>x.elim⟩
  cases e2 with
  |loc k q=>exact .loc k q
  |cell k l q=>exact .cell k l (kc l q)
theorem gv_sv_self:∀ (ρ:AEnv)(i:Nat)(x:AV)(y:AV),gv (sv ρ i (some x)) i=some y→y=x:=@λy_1=>@λy_2=>@λy_3=>@λy_4=>@λy_5=>match @y_1,@y_2,@y_3,@y_4,@y_5 with
 |[],x_1,x_2,x_3,e=>none_some e
 |x_1::x_2,0,x_3,x_4,e=>(Option.some.inj e).symm
 |x_1::r,i+1,x,y,e=>gv_sv_self r i x y e
theorem gv_sv_ne:∀ (ρ:AEnv)(i j:Nat)(x:Option AV),j≠i→gv (sv ρ i x) j=gv ρ j:=@λy_1=>@λy_2=>@λy_3=>@λy_4=>@λy_5=>match @y_1,@y_2,@y_3,@y_4,@y_5 with
 |[],x_1,x_2,x_3,x_4=>rfl
 |x_1::x_2,0,0,x_3,n=>absurd rfl n
 |x_1::x_2,0,j+1,x_3,x_4=>rfl
 |x_1::x_2,i+1,0,x_3,x_4=>rfl
 |x_1::r,i+1,j+1,x,n=>gv_sv_ne r i j x λe=>n (by (refine rwI e ?_;rfl))
theorem nodup_at {vars:List Str}(nd:vars.Nodup){i j:Nat}{x:Str}(hi:vars[i]? = some x)(hj:vars[j]? = some x):i=j:=by
 obtain⟨hi',ei⟩:=List.getElem?_eq_some_iff.mp hi
 obtain⟨hj',ej⟩:=List.getElem?_eq_some_iff.mp hj
 exact (List.getElem_inj nd).mp (ei.trans ej.symm)
theorem storeVarO {O:Nat→Prop}{M:Model}{A:Around}{E:Value→Shared→Prop}{s s₀:Shared}{H₀:AHeap}{n:Nat}{nm:Str}{x:AV}{v:Value}{Q:Unit→Shared→Prop}
  (eo:EnvOk G X env names) (st:St G X O H₀ s₀ H s) (f:Frm G X H s.heap env vars ρ) (nd:vars.Nodup) (hn:vars[n]? = some nm)
  (hk:names.lookup nm=some .local∨names.lookup nm=some .cell) (hv:VRel G (Fz H X) s.heap x v)
  (hOX:∀ b,O b→X b) (hOl:names.lookup nm=some .local→O env.locals) (hOc:∀ c,names.lookup nm=some .cell→env.cells.lookup nm=some c→O c)
  (h:∀ s',St G X O H₀ s₀ H s'→Frm G X H s'.heap env vars (sv ρ n (some x))→Q () s'):wpAny M A (bindName env nm v) Q E s:=by
 unfold bindName
 refine wpAny_bind (wpAny_holding (wpAny_point (wpAny_bind (wpAny_mono ?_ (λx_ s' q=>wpAny_point q) λx_ x_ q=>q))))
 obtain⟨⟨m,hns,hvs⟩,hcs⟩:=f
 have i:=st.inv
 have keep:∀ {L:Nat} {s':Shared},O L→Heap.SameBut L s.heap s'.heap→(∃ o,s'.heap.get? L=some o)→Same s s'→St G X O H₀ s₀ H s':=by
  intro L s' hL hs ha hsm
  have xL:=hOX L hL
  refine⟨⟨λa o e=>?_,λb o e=>?_,λb xb=>?_,i.low⟩,st.steps.trans λb o e q nO=>?_,st.same.trans hsm⟩
  ·have na:a≠L:=λe'=>by subst e';rw[(i.xs _ xL).1] at e;exact nomatch e
   refine (i.objs a o e).mono (λb ob fz g=>?_) λob g=>(hs.2 a na).trans g
   have nb:b≠L:=λe'=>by subst e';exact fz.2 xL
   exact⟨(hs.2 b nb).trans g,fz⟩
  ·obtain⟨p,q,r⟩:=i.base b o e
   have nb:b≠L:=λe'=>by subst e';exact r xL
   exact⟨(hs.2 b nb).trans p,q,r⟩
  ·obtain⟨p,ob,q⟩:=i.xs b xb
   by_cases e:b=L
   ·subst e;exact⟨p,ha⟩
   ·exact⟨p,ob,(hs.2 b e).trans q⟩
  ·have nb:b≠L:=λe'=>by subst e';exact nO hL
   exact⟨(hs.2 b nb).trans e,q⟩
 have mvV:∀ {L:Nat} {h':Heap} {y u},O L→Heap.SameBut L s.heap h'→VRel G (Fz H X) s.heap y u→VRel G (Fz H X) h' y u:=λhL hs r=>
  r.mono λb ob fz g=>⟨(hs.2 b λe'=>by subst e';exact fz.2 (hOX _ hL)).trans g,fz⟩
 have ek:∀ z,env.kindOf z=names.lookup z:=λz=>by unfold Env.kindOf;(refine rwI eo.nm ?_;rfl)
 rcases hk with hk|hk
 ·refine wpAny_storeName_local ((ek nm).trans hk) hns (λh' hn' hs=>?_) (by refine rwI eo.kind ?_;rfl)
  have hL:O env.locals:=hOl hk
  refine h _ (keep hL hs (by obtain⟨o,_,_,e,_⟩:=hn';exact⟨o,e⟩) ⟨rfl,rfl⟩) ⟨⟨_,hn',λj y e=>?_⟩,λn' c l=>?_⟩
  ·by_cases ej:j=n
   ·subst ej
    have:=gv_sv_self ρ j x y e;subst this
    exact⟨nm,v,hn,.loc ((ek nm).trans hk) (if_pos rfl),mvV hL hs hv⟩
   ·rw[gv_sv_ne ρ n j _ ej] at e
    obtain⟨nm',u,e1,e2,e3⟩:=hvs j y e
    have nn:nm'≠nm:=λe'=>ej (nodup_at nd (by (refine rwI e1 ?_;refine rwI e' ?_;rfl)) hn)
    refine⟨nm',u,e1,?_,mvV hL hs e3⟩
    cases e2 with
    |loc k q=>exact .loc k (by refine rwI (if_neg nn) ?_;exact q)
    |cell k l q=>exact .cell k l (q.sameBut hs (eo.xc _ _ l).2)
  ·obtain⟨u,q⟩:=hcs n' c l
   exact⟨u,q.sameBut hs (eo.xc _ _ l).2⟩
 ·obtain⟨c,hc⟩:=Option.isSome_iff_exists.mp (eo.hc nm hk)
  obtain⟨u₀,hu₀⟩:=hcs nm c hc
  refine wpAny_storeName_cell eo.kind ((ek nm).trans hk) hc hu₀ λh' hc' hs=>?_
  have hL:O c:=hOc c hk hc
  have ncl:env.locals≠c:=λe=>(eo.xc _ _ hc).2 e.symm
  refine h _ (keep hL hs (by obtain⟨o,e,_⟩:=hc';exact⟨o,e⟩) ⟨rfl,rfl⟩) ⟨⟨m,hns.sameBut hs ncl,λj y e=>?_⟩,λn' c' l=>?_⟩
  ·by_cases ej:j=n
   ·subst ej
    have:=gv_sv_self ρ j x y e;subst this
    exact⟨nm,v,hn,.cell ((ek nm).trans hk) hc hc',mvV hL hs hv⟩
   ·rw[gv_sv_ne ρ n j _ ej] at e
    obtain⟨nm',u,e1,e2,e3⟩:=hvs j y e
    have nn:nm'≠nm:=λe'=>ej (nodup_at nd (by (refine rwI e1 ?_;refine rwI e' ?_;rfl)) hn)
    refine⟨nm',u,e1,?_,mvV hL hs e3⟩
    cases e2 with
    |loc k q=>exact .loc k q
    |cell k l q=>exact .cell k l (q.sameBut hs λe'=>nn (eo.ap _ _ _ l (e' ▸ hc)))
  ·by_cases e:c'=c
   ·subst e;exact⟨_,hc'⟩
   ·obtain⟨u,q⟩:=hcs n' c' l
    exact⟨u,q.sameBut hs e⟩
theorem loadVar {M:Model}{A:Around}{E:Value→Shared→Prop}{s:Shared}{n:Nat}{nm:Str}{pos:Pos}{x:AV}{Q:Value→Shared→Prop}
  (eo:EnvOk G X env names) (f:Frm G X H s.heap env vars ρ) (hn:vars[n]? = some nm) (hx:gv ρ n=some x)
  (h:∀ v,VRel G (Fz H X) s.heap x v→Q v s):wpAny M A (loadName env nm) Q E s:=by
 obtain⟨⟨m,hns,hvs⟩,hcs⟩:=f
 obtain⟨nm',v,e1,e2,e3⟩:=hvs n x hx
 rw[hn] at e1;(replace e1:=Option.some.inj e1;subst e1)
 cases e2 with
 |loc k q=>exact wpAny_loadName_local eo.kind k hns q (h v e3)
 |cell k l q=>exact wpAny_loadName_cell eo.kind k l q (h v e3)
end
end Mine.Internal
namespace Mine.Internal
open PySem
abbrev Nms:=List (Str×NameKind)
noncomputable def kids:Expr→List Expr:=@λy_1=>match @y_1 with
 |.BoolOp x_1 vs x_2=>vs
 |.BinOp l x_1 r x_2=>[l,r]
 |.UnaryOp x_1 x x_2=>[x]
 |.IfExp t b o x_1=>[t,b,o]
 |.Set es x_1 x_2=>es
 |.ListComp e gs x_1 x_2=>e::gs.flatMap λc=>c.target::c.iter::c.ifs
 |.Compare l x_1 rs x_2=>l::rs
 |.Call f as x_1 x_2=>f::as
 |.Attribute v x_1 x_2=>[v]
 |.Subscript v i x_1=>[v,i]
 |.List es x_1=>es
 |.Tuple es x_1 x_2=>es
 |.Slice a b c x_1=>a.toList++(b.toList++c.toList)
 |x_1=>[]
noncomputable def hd:List Expr→Expr:=@λy_1=>match @y_1 with
 |x::x_1=>x
 |[]=>.Slice none none none ⟨0,0,0,0⟩
noncomputable def kid (ex:Expr) (i:Nat):Expr:=hd ((kids ex).drop i)
noncomputable def kN:Expr→Nat:=@λy_1=>match @y_1 with
 |.Constant x_1 k x_2=>k
 |.Tuple x_1 k x_2=>k
 |x_1=>0
noncomputable def scp:Expr→Scope:=@λy_1=>match @y_1 with
 |.ListComp x_1 x_2 s x_3=>s
 |x_1=>⟨.class,[],false,false,[]⟩
noncomputable def notCall0 (e:Expr):Bool:=!(e.ctorIdx==16)
noncomputable def notStar (e:Expr):Bool:=!(e.ctorIdx==22)
noncomputable def notSlice (e:Expr):Bool:=!(e.ctorIdx==26)
noncomputable def noSet (e:Expr):Bool:=!(e.ctorIdx==7)
noncomputable def opOf:Bin→Operator:=@λy_1=>match @y_1 with
 |.add=>.Add|.sub=>.Sub|.mul=>.Mult|.div=>.FloorDiv|.mod=>.Mod|.pow=>.Pow|.xor=>.BitXor
noncomputable def cmOf:Cm→CmpOp:=@λy_1=>match @y_1 with
 |.eq=>.Eq|.ne=>.NotEq|.lt=>.Lt|.le=>.LtE|.gt=>.Gt|.ge=>.GtE|.is=>.Is|.isnt=>.IsNot|.isin=>.In|.notin=>.NotIn
noncomputable def S' (x:String):Str:=Str.ofString x
noncomputable def isG (sc:Nms) (x:String):Bool:=sc.lookup (S' x)==some .globalImplicit && !(S' x==("__debug__" : Str))
noncomputable def nmOf (vars:List Str) (n:Nat):Str:=vars[n]?.getD ""
noncomputable def varIs (vars:List Str) (n:Nat) (x:Str):Bool:=vars[n]? == some x && !(x==("__debug__" : Str))
noncomputable def fnN (f:Nat):String:=names.getD f ""
noncomputable def clsN:Nat→String:=@λy_1=>match @y_1 with
 |0=>"Step" | 1=>"Block" | _=>"Func"
noncomputable def fldN (c k:Nat):String:=(flds c)[k]?.getD ""
noncomputable def isL (sc:Nms) (x:Str):Bool:=sc.lookup x==some .local
noncomputable def isC (sc:Nms) (x:Str):Bool:=sc.lookup x==some .cell
noncomputable def varOk (sc:Nms) (vars:List Str) (n:Nat):Bool:=varIs vars n (nmOf vars n)&&(isL sc (nmOf vars n)||isC sc (nmOf vars n))
noncomputable def relab (sc inner:Nms):Nms:=inner.map λp=>if p.2==.free&&sc.lookup p.1==some .cell then (p.1,.cell) else p
noncomputable def nodupB:List Str→Bool:=@λy_1=>match @y_1 with
 |[]=>true
 |x::r=>!r.contains x&&nodupB r
theorem nodupB_s:∀ {l:List Str},nodupB l=true→l.Nodup:=@λy_1=>@λy_2=>match @y_1,@y_2 with
 |[],x_1=>.nil
 |x::r,h=>by
  replace h:=Bool.and_eq_true_iff.mp h
  refine List.nodup_cons.mpr ⟨λhx=>?_,nodupB_s h.2⟩
  have q:=h.1
  rw[List.contains_iff_mem.mpr hx] at q;exact (Bool.false_ne_true q).elim
noncomputable def tgK:Sk→Tg→Bool:=@λy_1=>@λy_2=>match @y_1,@y_2 with
 |.enum,.one x_1=>false
 |.zip,.one x_1=>false
 |x_1,x_2=>true
noncomputable def eName (x:Str) (e:Expr):Expr:=.Name x e.pos
noncomputable def eNames (vars:List Str):List Nat→List Expr→List Expr:=@λy_1=>@λy_2=>match @y_1,@y_2 with
 |[],x_1=>[]
 |n::ns,es=>eName (nmOf vars n) (hd es)::eNames vars ns es.tail
noncomputable def eTg (vars:List Str) (t:Tg) (e:Expr):Expr:=match t with
 |.one n=>eName (nmOf vars n) e
 |.many ns=>.Tuple (eNames vars ns (kids e)) (kN e) e.pos
noncomputable def eCall (x:String) (as:List Expr) (ex:Expr):Expr:=.Call (eName (S' x) (kid ex 0)) as [] ex.pos
noncomputable def eMeth (o:Expr) (x:String) (as:List Expr) (ex:Expr):Expr:=.Call (.Attribute o (S' x) (kid ex 0).pos) as [] ex.pos
noncomputable def eInt (i:Int) (ex:Expr):Expr:=match i with
 |.ofNat n=>.Constant (.int (.ofNat n)) (kN ex) ex.pos
 |.negSucc n=>.UnaryOp .USub (.Constant (.int (.ofNat (n+1))) (kN (kid ex 0)) (kid ex 0).pos) ex.pos
noncomputable def eRev (j:Expr):Expr:=.Slice none none (some (.UnaryOp .USub (.Constant (.int 1) (kN (kid (kid j 0) 0)) (kid (kid j 0) 0).pos) (kid j 0).pos)) j.pos
noncomputable def eUpto (n:Nat) (j:Expr):Expr:=.Slice none (some (.Constant (.int n) (kN (kid j 0)) (kid j 0).pos)) none j.pos
noncomputable def rest2 (o:BoolOp):List Expr→Expr:=@λy_1=>match @y_1 with
 |[x_1,w]=>w
 |x_1::w::r=>.BoolOp o (w::r) ⟨0,0,0,0⟩
 |x_1=>hd []
noncomputable def two2:List Expr→Bool:=@λy_1=>match @y_1 with
 |[x_1,x_2]=>true
 |x_1=>false
noncomputable def flatB (ks:List Expr) (x:Expr):List Expr:=match two2 ks with
 |true=>[x]
 |false=>kids x
noncomputable def srcs (k:Sk) (it:Expr):List Expr:=match k with
 |.plain=>[it]
 |_=>(kids it).tail
noncomputable def eSrc (k:Sk) (as:List Expr) (it:Expr):Expr:=match k with
 |.plain=>hd as
 |.range=>eCall "range" as it
 |.enum=>eCall "enumerate" as it
 |.zip=>eCall "zip" as it
noncomputable def srcN:Sk→String:=@λy_1=>match @y_1 with
 |.plain=>""
 |.range=>"range"
 |.enum=>"enumerate"
 |.zip=>"zip"
mutual
noncomputable def conc (vars:List Str):E→Expr→Expr:=@λy_1=>@λy_2=>match @y_1,@y_2 with
 |.dead,ex=>ex
 |.v n,ex=>eName (nmOf vars n) ex
 |.none,ex=>.Constant .none (kN ex) ex.pos
 |.bool b,ex=>.Constant (.bool b) (kN ex) ex.pos
 |.int i,ex=>eInt i ex
 |.str s,ex=>.Constant (.str (S' s)) (kN ex) ex.pos
 |.glob k,ex=>eName (S' (globN k)) ex
 |.attr e c k,ex=>.Attribute (conc vars e (kid ex 0)) (S' (fldN c k)) ex.pos
 |.idx e i,ex=>.Subscript (conc vars e (kid ex 0)) (conc vars i (kid ex 1)) ex.pos
 |.revs e,ex=>.Subscript (conc vars e (kid ex 0)) (eRev (kid ex 1)) ex.pos
 |.upto e n,ex=>.Subscript (conc vars e (kid ex 0)) (eUpto n (kid ex 1)) ex.pos
 |.bin op a b,ex=>.BinOp (conc vars a (kid ex 0)) (opOf op) (conc vars b (kid ex 1)) ex.pos
 |.cmp op a b,ex=>.Compare (conc vars a (kid ex 0)) [cmOf op] [conc vars b (kid ex 1)] ex.pos
 |.cmp2 o1 o2 a b c,ex=>.Compare (conc vars a (kid ex 0)) [cmOf o1,cmOf o2] [conc vars b (kid ex 1),conc vars c (kid ex 2)] ex.pos
 |.eqNil e,ex=>.Compare (conc vars e (kid ex 0)) [.Eq] [.List [] (kid ex 1).pos] ex.pos
 |.setNe a b,ex=>.Compare (conc vars a (kid ex 0)) [.NotEq] [conc vars b (kid ex 1)] ex.pos
 |.setLe a b,ex=>.Compare (conc vars a (kid ex 0)) [.LtE] [conc vars b (kid ex 1)] ex.pos
 |.inG neg e k,ex=>.Compare (conc vars e (kid ex 0)) [if neg then .NotIn else .In] [eName (S' (dictN k)) (kid ex 1)] ex.pos
 |.not e,ex=>.UnaryOp .Not (conc vars e (kid ex 0)) ex.pos
 |.and a b,ex=>.BoolOp .And (conc vars a (kid ex 0)::flatB (kids ex) (conc vars b (rest2 .And (kids ex)))) ex.pos
 |.or a b,ex=>.BoolOp .Or (conc vars a (kid ex 0)::flatB (kids ex) (conc vars b (rest2 .Or (kids ex)))) ex.pos
 |.ife t a b,ex=>.IfExp (conc vars t (kid ex 0)) (conc vars a (kid ex 1)) (conc vars b (kid ex 2)) ex.pos
 |.tup es,ex=>.Tuple (concs vars es (kids ex)) (kN ex) ex.pos
 |.lst x_1 es,ex=>.List (concs vars es (kids ex)) ex.pos
 |.dict0,ex=>.Dict [] [] ex.pos
 |.set0,ex=>eCall "set" [] ex
 |.set1 i,ex=>.Set [.Constant (.int i) (kN (kid ex 0)) (kid ex 0).pos] 0 ex.pos
 |.setOf e,ex=>eCall "set" [conc vars e (kid ex 1)] ex
 |.call f es,ex=>eCall (fnN f) (concs vars es (kids ex).tail) ex
 |.mk c es,ex=>eCall (clsN c) (concs vars es (kids ex).tail) ex
 |.len e,ex=>eCall "len" [conc vars e (kid ex 1)] ex
 |.listOf e,ex=>eCall "list" [conc vars e (kid ex 1)] ex
 |.sorted e,ex=>eCall "sorted" [conc vars e (kid ex 1)] ex
 |.any e,ex=>eCall "any" [conc vars e (kid ex 1)] ex
 |.all e,ex=>eCall "all" [conc vars e (kid ex 1)] ex
 |.isBool e,ex=>eCall "isinstance" [conc vars e (kid ex 1),eName (S' "bool") (kid ex 2)] ex
 |.strOf e,ex=>eCall "str" [conc vars e (kid ex 1)] ex
 |.append o e,ex=>eMeth (conc vars o (kid (kid ex 0) 0)) "append" [conc vars e (kid ex 1)] ex
 |.pop o,ex=>eMeth (conc vars o (kid (kid ex 0) 0)) "pop" [] ex
 |.get o k d,ex=>eMeth (conc vars o (kid (kid ex 0) 0)) "get" [conc vars k (kid ex 1),conc vars d (kid ex 2)] ex
 |.dpop o k,ex=>eMeth (conc vars o (kid (kid ex 0) 0)) "pop" [conc vars k (kid ex 1),.Constant .none (kN (kid ex 2)) (kid ex 2).pos] ex
 |.add o e,ex=>eMeth (conc vars o (kid (kid ex 0) 0)) "add" [conc vars e (kid ex 1)] ex
 |.discard o e,ex=>eMeth (conc vars o (kid (kid ex 0) 0)) "discard" [conc vars e (kid ex 1)] ex
 |.count o e,ex=>eMeth (conc vars o (kid (kid ex 0) 0)) "count" [conc vars e (kid ex 1)] ex
 |.comp x_1 elt t k es tests x_2,ex=>.ListComp (conc vars elt (kid ex 0)) [⟨eTg vars t (kid ex 1),eSrc k (concs vars es (srcs k (kid ex 2))) (kid ex 2),concs vars tests ((kids ex).drop 3),0⟩] (scp ex) ex.pos
noncomputable def concs (vars:List Str):List E→List Expr→List Expr:=@λy_1=>@λy_2=>match @y_1,@y_2 with
 |[],x_1=>[]
 |e::es,xs=>conc vars e (hd xs)::concs vars es xs.tail
end
noncomputable def tgM (sc:Nms) (vars:List Str):Tg→Bool:=@λy_1=>match @y_1 with
 |.one n=>varIs vars n (nmOf vars n)&&isL sc (nmOf vars n)
 |.many ns=>ns.all λn=>varIs vars n (nmOf vars n)&&isL sc (nmOf vars n)
noncomputable def isAndE (e:E):Bool:=e.ctorIdx==19
noncomputable def isOrE (e:E):Bool:=e.ctorIdx==20
noncomputable def methOk (o:Expr) (ex:Expr):Bool:=notCall0 o&&(kid ex 0).pos.endLine==ex.pos.line
noncomputable def isFunK:ScopeKind→Bool:=@λy_1=>match @y_1 with
 |.function=>true
 |x_1=>false
noncomputable def cmpB (sc:Nms) (inner:Scope):Bool:=isFunK inner.kind&&inner.names.all λp=>p.2 != .cell&&((p.2 != .local||inner.names.lookup p.1==some .local)&&(p.2 != .free||sc.lookup p.1==some .cell))
noncomputable def srcB (sc:Nms) (k:Sk) (es:List E):Bool:=match k with
 |.plain=>decide (es.length=1)
 |k=>isG sc (srcN k)
mutual
noncomputable def mE (sc:Nms) (vars:List Str):E→Expr→Bool:=@λy_1=>@λy_2=>match @y_1,@y_2 with
 |.v n,x_1=>varOk sc vars n
 |.glob k,x_1=>isG sc (globN k)
 |.attr e c k,ex=>mE sc vars e (kid ex 0)&&(notCall0 (conc vars e (kid ex 0))&&decide (k < (flds c).length))
 |.idx e i,ex=>mE sc vars e (kid ex 0)&&(mE sc vars i (kid ex 1)&&notSlice (conc vars i (kid ex 1)))
 |.revs e,ex=>mE sc vars e (kid ex 0)
 |.upto e x_1,ex=>mE sc vars e (kid ex 0)
 |.bin x_1 a b,ex=>mE sc vars a (kid ex 0)&&mE sc vars b (kid ex 1)
 |.cmp op a b,ex=>mE sc vars a (kid ex 0)&&(mE sc vars b (kid ex 1) && !behindInMarks (cmOf op) (conc vars b (kid ex 1)))
 |.cmp2 x_1 o2 a b c,ex=>mE sc vars a (kid ex 0)&&(mE sc vars b (kid ex 1)&&(mE sc vars c (kid ex 2) && !behindInMarks (cmOf o2) (conc vars c (kid ex 2))))
 |.eqNil e,ex=>mE sc vars e (kid ex 0)
 |.setNe a b,ex=>mE sc vars a (kid ex 0)&&(mE sc vars b (kid ex 1) && !behindInMarks .NotEq (conc vars b (kid ex 1)))
 |.setLe a b,ex=>mE sc vars a (kid ex 0)&&(mE sc vars b (kid ex 1) && !behindInMarks .LtE (conc vars b (kid ex 1)))
 |.inG x_1 e k,ex=>mE sc vars e (kid ex 0)&&isG sc (dictN k)
 |.not e,ex=>mE sc vars e (kid ex 0)
 |.and a b,ex=>mE sc vars a (kid ex 0)&&(mE sc vars b (rest2 .And (kids ex))&&(two2 (kids ex)||isAndE b))
 |.or a b,ex=>mE sc vars a (kid ex 0)&&(mE sc vars b (rest2 .Or (kids ex))&&(two2 (kids ex)||isOrE b))
 |.ife t a b,ex=>mE sc vars t (kid ex 0)&&(mE sc vars a (kid ex 1)&&mE sc vars b (kid ex 2))
 |.tup es,ex=>mEs sc vars es (kids ex)&&decide (es.length≤1000)
 |.lst x_1 es,ex=>mEs sc vars es (kids ex)&&decide (es.length≤1000)
 |.set0,x_1=>isG sc "set"
 |.setOf e,ex=>isG sc "set" && (notStar (conc vars e (kid ex 1))&&mE sc vars e (kid ex 1))
 |.call f es,ex=>isG sc (fnN f)&&(decide (f < 46)&&mEs sc vars es (kids ex).tail)
 |.mk c es,ex=>isG sc (clsN c)&&(decide (c < 3)&&mEs sc vars es (kids ex).tail)
 |.len e,ex=>isG sc "len" && (notStar (conc vars e (kid ex 1))&&mE sc vars e (kid ex 1))
 |.listOf e,ex=>isG sc "list" && (notStar (conc vars e (kid ex 1))&&mE sc vars e (kid ex 1))
 |.sorted e,ex=>isG sc "sorted" && (notStar (conc vars e (kid ex 1))&&mE sc vars e (kid ex 1))
 |.any e,ex=>isG sc "any" && (notStar (conc vars e (kid ex 1))&&mE sc vars e (kid ex 1))
 |.all e,ex=>isG sc "all" && (notStar (conc vars e (kid ex 1))&&mE sc vars e (kid ex 1))
 |.isBool e,ex=>isG sc "isinstance" && (isG sc "bool" && (notStar (conc vars e (kid ex 1))&&mE sc vars e (kid ex 1)))
 |.strOf e,ex=>isG sc "str" && (notStar (conc vars e (kid ex 1))&&mE sc vars e (kid ex 1))
 |.append o e,ex=>methOk (conc vars o (kid (kid ex 0) 0)) ex&&(mE sc vars o (kid (kid ex 0) 0)&&(notStar (conc vars e (kid ex 1))&&mE sc vars e (kid ex 1)))
 |.pop o,ex=>methOk (conc vars o (kid (kid ex 0) 0)) ex&&mE sc vars o (kid (kid ex 0) 0)
 |.get o k d,ex=>methOk (conc vars o (kid (kid ex 0) 0)) ex&&(mE sc vars o (kid (kid ex 0) 0)&&(notStar (conc vars k (kid ex 1))&&(mE sc vars k (kid ex 1)&&(notStar (conc vars d (kid ex 2))&&mE sc vars d (kid ex 2)))))
 |.dpop o k,ex=>methOk (conc vars o (kid (kid ex 0) 0)) ex&&(mE sc vars o (kid (kid ex 0) 0)&&(notStar (conc vars k (kid ex 1))&&mE sc vars k (kid ex 1)))
 |.add o e,ex=>methOk (conc vars o (kid (kid ex 0) 0)) ex&&(mE sc vars o (kid (kid ex 0) 0)&&(notStar (conc vars e (kid ex 1))&&mE sc vars e (kid ex 1)))
 |.discard o e,ex=>methOk (conc vars o (kid (kid ex 0) 0)) ex&&(mE sc vars o (kid (kid ex 0) 0)&&(notStar (conc vars e (kid ex 1))&&mE sc vars e (kid ex 1)))
 |.count o e,ex=>methOk (conc vars o (kid (kid ex 0) 0)) ex&&(mE sc vars o (kid (kid ex 0) 0)&&(notStar (conc vars e (kid ex 1))&&mE sc vars e (kid ex 1)))
 |.comp x_1 elt t k es tests caps,ex=>
  cmpB sc (scp ex)&&(tgM (relab sc (scp ex).names) vars t&&(srcB sc k es&&(mEs sc vars es (srcs k (kid ex 2))&&(noSet (eSrc k (concs vars es (srcs k (kid ex 2))) (kid ex 2))&&(nodupB vars&&(tgK k t &&
   (mE (relab sc (scp ex).names) vars elt (kid ex 0)&&(mTs (relab sc (scp ex).names) vars tests ((kids ex).drop 3)&&caps.all (λi=>match vars[i]? with|some x=>isC (relab sc (scp ex).names) x|none=>false)))))))))
 |x_1,x_2=>true
noncomputable def mEs (sc:Nms) (vars:List Str):List E→List Expr→Bool:=@λy_1=>@λy_2=>match @y_1,@y_2 with
 |[],x_1=>true
 |e::es,xs=>notStar (conc vars e (hd xs))&&(mE sc vars e (hd xs)&&mEs sc vars es xs.tail)
noncomputable def mTs (sc:Nms) (vars:List Str):List E→List Expr→Bool:=@λy_1=>@λy_2=>match @y_1,@y_2 with
 |[],x_1=>true
 |e::es,xs=>mE sc vars e (hd xs)&&mTs sc vars es xs.tail
end
structure SParts where
 v:Expr
 t:Expr
 a:List Stmt
 b:List Stmt
 h:List ExceptHandler
noncomputable def sParts:Stmt→SParts:=@λy_1=>match @y_1 with
 |.Assign ts v x_1=>⟨v,hd ts,[],[],[]⟩
 |.AugAssign t x_1 v x_2=>⟨v,t,[],[],[]⟩
 |.Expr v x_1=>⟨v,v,[],[],[]⟩
 |.Return v x_1=>⟨hd v.toList,hd [],[],[],[]⟩
 |.If t a b x_1=>⟨t,t,a,b,[]⟩
 |.While t a x_1 x_2=>⟨t,t,a,[],[]⟩
 |.For t i a x_1 x_2=>⟨i,t,a,[],[]⟩
 |.Try a h x_1 x_2 x_3=>⟨hd [],hd [],a,[],h⟩
 |x_1=>⟨hd [],hd [],[],[],[]⟩
noncomputable def sVal (s:Stmt):Expr:=(sParts s).v
noncomputable def sTgt (s:Stmt):Expr:=(sParts s).t
noncomputable def sB1 (s:Stmt):List Stmt:=(sParts s).a
noncomputable def sB2 (s:Stmt):List Stmt:=(sParts s).b
noncomputable def sHs (s:Stmt):List ExceptHandler:=(sParts s).h
noncomputable def hdS:List Stmt→Stmt:=@λy_1=>match @y_1 with
 |x::x_1=>x
 |[]=>.Pass ⟨0,0,0,0⟩
noncomputable def isGho (s:S):Bool:=s.ctorIdx==1
noncomputable def tailB (g:Bool) (ss:List Stmt):List Stmt:=match g with
 |true=>ss
 |false=>ss.tail
noncomputable def consB (g:Bool) (s:Stmt) (ss:List Stmt):List Stmt:=match g with
 |true=>ss
 |false=>s::ss
noncomputable def isTupleDisplay (e:Expr):Bool:=e.ctorIdx==25
noncomputable def isName (e:Expr):Bool:=e.ctorIdx==23
noncomputable def notComp (e:Expr):Bool:=!(e.ctorIdx==8||(e.ctorIdx==9||e.ctorIdx==10))
noncomputable def compApart (x:Str) (e:Expr):Bool:=e.ctorIdx==8 && !((scp e).names.any λp=>p.1==x&&(p.2==.local||p.2==.cell))
mutual
noncomputable def concS (vars:List Str):S→Stmt→Stmt:=@λy_1=>@λy_2=>match @y_1,@y_2 with
 |.dead,st=>st
 |.ghost,st=>st
 |.asg n e,st=>.Assign [eName (nmOf vars n) (sTgt st)] (conc vars e (sVal st)) st.pos
 |.asgT ns e,st=>.Assign [.Tuple (eNames vars ns (kids (sTgt st))) (kN (sTgt st)) (sTgt st).pos] (conc vars e (sVal st)) st.pos
 |.asgA o c k e,st=>.Assign [.Attribute (conc vars o (kid (sTgt st) 0)) (S' (fldN c k)) (sTgt st).pos] (conc vars e (sVal st)) st.pos
 |.asgI o i e,st=>.Assign [.Subscript (conc vars o (kid (sTgt st) 0)) (conc vars i (kid (sTgt st) 1)) (sTgt st).pos] (conc vars e (sVal st)) st.pos
 |.augN n op e,st=>.AugAssign (eName (nmOf vars n) (sTgt st)) (opOf op) (conc vars e (sVal st)) st.pos
 |.augI o i op e,st=>.AugAssign (.Subscript (conc vars o (kid (sTgt st) 0)) (conc vars i (kid (sTgt st) 1)) (sTgt st).pos) (opOf op) (conc vars e (sVal st)) st.pos
 |.augU n e,st=>.AugAssign (eName (nmOf vars n) (sTgt st)) .BitOr (conc vars e (sVal st)) st.pos
 |.ex e,st=>.Expr (conc vars e (sVal st)) st.pos
 |.iff t a b,st=>.If (conc vars t (sVal st)) (concB vars a (sB1 st)) (concB vars b (sB2 st)) st.pos
 |.whl t b,st=>.While (conc vars t (sVal st)) (concB vars b (sB1 st)) [] st.pos
 |.forr t k es b,st=>.For (eTg vars t (sTgt st)) (eSrc k (concs vars es (srcs k (sVal st))) (sVal st)) (concB vars b (sB1 st)) [] st.pos
 |.ret e,st=>.Return (some (conc vars e (sVal st))) st.pos
 |.cont,st=>.Continue st.pos
 |.tryp b,st=>.Try (concB vars b (sB1 st)) (sHs st) [] [] st.pos
noncomputable def concB (vars:List Str):List S→List Stmt→List Stmt:=@λy_1=>@λy_2=>match @y_1,@y_2 with
 |[],x_1=>[]
 |s::r,ss=>consB (isGho s) (concS vars s (hdS ss)) (concB vars r (tailB (isGho s) ss))
end
noncomputable def fgM (sc:Nms) (vars:List Str):Tg→Bool:=@λy_1=>match @y_1 with
 |.one n=>varOk sc vars n
 |.many ns=>ns.all (varOk sc vars)
mutual
noncomputable def mS (sc:Nms) (vars:List Str):S→Stmt→Bool:=@λy_1=>@λy_2=>match @y_1,@y_2 with
 |.asg n e,st=>varOk sc vars n&&(mE sc vars e (sVal st)&&(notComp (conc vars e (sVal st))||(isL sc (nmOf vars n)&&(compApart (nmOf vars n) (conc vars e (sVal st))&&((sTgt st).pos.line==(conc vars e (sVal st)).pos.line)))))
 |.asgT ns e,st=>ns.all (varOk sc vars)&&(mE sc vars e (sVal st)&&(notComp (conc vars e (sVal st))&&(!isTupleDisplay (conc vars e (sVal st))||decide (3 < ns.length))))
 |.asgA o c k e,st=>mE sc vars o (kid (sTgt st) 0)&&(mE sc vars e (sVal st)&&(notComp (conc vars e (sVal st))&&(notCall0 (conc vars o (kid (sTgt st) 0))&&decide (k < (flds c).length))))
 |.asgI o i e,st=>mE sc vars o (kid (sTgt st) 0)&&(mE sc vars i (kid (sTgt st) 1)&&(mE sc vars e (sVal st)&&(notComp (conc vars e (sVal st))&&notSlice (conc vars i (kid (sTgt st) 1)))))
 |.augN n x_1 e,st=>varOk sc vars n&&mE sc vars e (sVal st)
 |.augI o i x_1 e,st=>mE sc vars o (kid (sTgt st) 0)&&(mE sc vars i (kid (sTgt st) 1)&&(mE sc vars e (sVal st)&&notSlice (conc vars i (kid (sTgt st) 1))))
 |.augU n e,st=>varOk sc vars n&&mE sc vars e (sVal st)
 |.ex e,st=>mE sc vars e (sVal st)&&(notComp (conc vars e (sVal st)) && !isName (conc vars e (sVal st)))
 |.iff t a b,st=>mE sc vars t (sVal st)&&(mB sc vars a (sB1 st)&&mB sc vars b (sB2 st))
 |.whl t b,st=>mE sc vars t (sVal st)&&mB sc vars b (sB1 st)
 |.forr t k es b,st=>fgM sc vars t&&(srcB sc k es&&(mEs sc vars es (srcs k (sVal st))&&(noSet (eSrc k (concs vars es (srcs k (sVal st))) (sVal st))&&(tgK k t&&mB sc vars b (sB1 st)))))
 |.ret e,st=>mE sc vars e (sVal st)
 |.tryp b,st=>mB sc vars b (sB1 st) && !(sHs st).isEmpty
 |x_1,x_2=>true
noncomputable def mB (sc:Nms) (vars:List Str):List S→List Stmt→Bool:=@λy_1=>@λy_2=>match @y_1,@y_2 with
 |[],x_1=>true
 |s::r,ss=>mS sc vars s (hdS ss)&&mB sc vars r (tailB (isGho s) ss)
end
end Mine.Internal
namespace Mine.Internal
open PySem PySem.W PyProof.Rows
noncomputable def biTab:List (String×Value):=[("len",.builtin "len"),("list",.type "list"),("set",.type "set"),("sorted",.builtin "sorted"),("enumerate",.type "enumerate"),("zip",.type "zip"),
 ("range",.type "range"),("any",.builtin "any"),("all",.builtin "all"),("isinstance",.builtin "isinstance"),("str",.type "str"),("bool",.type "bool")]
theorem bi_at {x:String}{v:Value}(k:Nat)(h:biTab[k]? = some (x,v)):(x,v)∈biTab:=List.mem_of_getElem? h
structure GOk (G:Glo):Prop where
 X:G.K.In G.h0
 g:G.h0.Ns mainGlobals G.mg
 b:G.h0.Ns builtinsNs G.mb
 nolimit:G.h0.NoLimit
 glob:∀ k,∃ v,G.mg (S' (globN k))=some v∧VRel G (λa=>∃ o,G.h0.get? a=some o) G.h0 (globV k) v
 dict:∀ k,∃ a f,G.mg (S' (dictN k))=some (.ref a)∧(a==sysModules)=false∧G.h0.MapOf (strKind G.prog G.w) a f∧∀ s:String,(f (S' s)).isSome=(dictK k).contains s
 bi:∀ x v,(x,v)∈biTab→G.mg (S' x)=none∧G.mb (S' x)=some v
 cga:∀ c,c < 3→findIn G.K (.ref (G.cls c)) "__getattribute__" = some (some (.builtin "object.__getattribute__"))
 chd:∀ c,c < 3→hasDictIn G.K (G.cls c)=true
 cfl:∀ (c k:Nat) (nm:String),(flds c)[k]? = some nm→∃ at',findIn G.K (.ref (G.cls c)) (S' nm)=some at'∧noGet G.K at'=true
 kfn:∀ f,f < 46→∃ fa,G.mg (S' (fnN f))=some (.ref fa)∧keepIn G.K (.ref fa)=true
 kcl:∀ c,c < 3→G.mg (S' (clsN c))=some (.ref (G.cls c))∧keepIn G.K (.ref (G.cls c))=true
 csa:∀ c,c < 3→findIn G.K (.ref (G.cls c)) "__setattr__" = some (some (.builtin "object.__setattr__"))
 cpo:∀ c,c < 3→plainOver G.K (G.cls c)=true
 ctk:∀ (c k:Nat) (nm:String),(flds c)[k]? = some nm→takerIn G.K (G.cls c) (S' nm)=some none
structure AOk (n:Nat)(A:Around):Prop where
 hd:A.handled=none
 dp:A.depth+2 * n≤900
 un:A.units+6 * n≤9000
theorem S'_inj {a b:String}(h:S' a=S' b):a=b:=by
 unfold S' at h
 rw[Str.ofString_eq_toList,Str.ofString_eq_toList] at h
 have h1:=congrArg (λx=>x.cps.toList) h
 simp only at h1
 have inj:∀ l l':List Char,l.map Char.toNat=l'.map Char.toNat→l=l':=by
  intro l
  induction l with
  |nil=>intro l' e;cases l' with|nil=>rfl|cons _ _=>simp at e
  |cons c l ih=>
   intro l' e
   cases l' with
   |nil=>simp at e
   |cons c' l'=>
    simp only[List.map_cons,List.cons.injEq] at e
    (refine rwI (ih l' e.2) ?_;refine rwI (Char.toNat_inj.mp e.1) ?_;rfl)
 exact String.toList_inj.mp (inj _ _ h1)
theorem S'_append (a b:String):S' (a++b)=S' a++S' b:=by
 unfold S'
 (refine rwI (Str.ofString_eq_toList ..) ?_;refine rwI (Str.ofString_eq_toList ..) ?_;refine rwI (Str.ofString_eq_toList ..) ?_)
 refine (?_:_=(⟨_⟩:Str))
 simp
section
variable {G:Glo}{X:Nat→Prop}{H:AHeap}{env:Env}{names:Nms}{vars:List Str}{ρ:AEnv}{A:Around}{Er:Value→Shared→Prop}{s:Shared}
theorem Inv.keeps0 {h:Heap}(i:Inv G X H h):∀ b o,G.h0.get? b=some o→h.get? b=some o:=λb o e=>(i.base b o e).1
theorem Inv.size {h:Heap}(gk:GOk G)(i:Inv G X H h):mainGlobals < h.objs.size:=by
 obtain⟨o,_,_,ho,_⟩:=gk.g
 exact Heap.lt_size (i.keeps0 _ _ ho)
theorem Inv.notMods {h:Heap}(i:Inv G X H h){a:Nat}{o:AObj}(e:H a=some o):(a==sysModules)=false:=by
 have:=i.low a o e
 refine rwI (propext beq_eq_false_iff_ne) ?_
 rintro rfl
 exact absurd this (by decide)
theorem VRel.ofBase {h:Heap}{x:AV}{v:Value}(i:Inv G X H h)(r:VRel G (λa=>∃ o,G.h0.get? a=some o) G.h0 x v):VRel G (Fz H X) h x v:=
 r.mono λa o x_ e=>⟨(i.base a o e).1,(i.base a o e).2⟩
theorem loadG {x:String}{pos:Pos}{v:Value}{Q:Value→Shared→Prop}(gk:GOk G)(eo:EnvOk G X env names)(i:Inv G X H s.heap)(hx:isG names x=true)(hv:G.mg (S' x)=some v)(h:Q v s) :
  wpAny (model G.prog G.w) A (eval (.Name (S' x) pos) env) Q Er s:=by
 obtain⟨h1,h2⟩:=Bool.and_eq_true_iff.mp hx
 refine Calls.Name_function_global eo.kind ?_ (Calls.loadGlobal_global (by refine rwI eo.gl ?_;exact gk.g.keeps i.keeps0) hv h) (by simpa using h2)
 unfold Env.kindOf;refine rwI eo.nm ?_;exact eq_of_beq h1
theorem loadB {x:String}{pos:Pos}{v:Value}{Q:Value→Shared→Prop}(gk:GOk G)(eo:EnvOk G X env names)(i:Inv G X H s.heap)(hx:isG names x=true)(hv:(x,v)∈biTab)(h:Q v s) :
  wpAny (model G.prog G.w) A (eval (.Name (S' x) pos) env) Q Er s:=by
 obtain⟨h1,h2⟩:=Bool.and_eq_true_iff.mp hx
 obtain⟨b1,b2⟩:=gk.bi x v hv
 refine Calls.Name_function_global eo.kind ?_ (Calls.loadGlobal_builtin (by refine rwI eo.gl ?_;exact gk.g.keeps i.keeps0) b1 (by refine rwI eo.bi ?_;exact gk.b.keeps i.keeps0) b2 h) (by simpa using h2)
 unfold Env.kindOf;refine rwI eo.nm ?_;exact eq_of_beq h1
theorem VRel.handed {F:Nat→Prop}{h:Heap}{x:AV}{v:Value}(r:VRel G F h x v):handedIn v=true:=by cases r<;>rfl
theorem getL_at {names:List String}{es:List DictEntry}(k:KeysAre names es)(nd:names.Nodup){i:Nat}{nm:String}(hi:names[i]? = some nm) :
  ∃ e,es[i]? = some e∧getL (S' nm) es=some (some e.val):=by
 unfold KeysAre at k
 induction names generalizing es i with
 |nil=>simp at hi
 |cons n ns ih=>
  cases es with
  |nil=>simp at k
  |cons e es=>
   simp only[List.map_cons,List.cons.injEq] at k
   obtain⟨k1,k2⟩:=k
   obtain⟨n1,n2⟩:=List.nodup_cons.mp nd
   have ek:e.key.isStr (S' nm)=decide (n=nm):=by
    cases hk:e.key with
    |str x t=>
     rw[hk] at k1
     have k1:x=S' n:=Option.some.inj k1
     subst k1
     refine (?_:(S' n==S' nm)=decide (n=nm))
     by_cases q:n=nm
     ·subst q;simp
     ·refine rwI (decide_eq_false q) ?_;exact beq_eq_false_iff_ne.mpr λe=>q (S'_inj e)
    |_=>rw[hk] at k1;cases k1
   have rk:e.refKey=false:=by
    unfold DictEntry.refKey
    cases hk:e.key<;>first|rfl|(rw[hk] at k1;cases k1)
   cases i with
   |zero=>
    simp at hi;subst hi
    exact⟨e,rfl,by unfold getL;(refine rwI (List.find?_cons) ?_;refine rwI ek ?_);simp⟩
   |succ i=>
    simp only[List.getElem?_cons_succ] at hi
    obtain⟨e',h1,h2⟩:=ih (es:=es) k2 n2 hi
    have ne:n≠nm:=λq=>n1 (q ▸ List.mem_of_getElem? hi)
    refine⟨e',by simpa using h1,?_⟩
    unfold getL at h2 ⊢
    (refine rwI (List.find?_cons) ?_;refine rwI ek ?_;refine rwI (decide_eq_false ne) ?_)
    simp only[List.any_cons,rk,Bool.false_or]
    exact h2
theorem flds_nodup:∀ c,(flds c).Nodup:=@λy_1=>match @y_1 with
 |0=>by decide
 |1=>by decide
 |2=>by decide
 |x_1+3=>List.nodup_nil
theorem flds_lt {c k:Nat}{nm:String}(h:(flds c)[k]? = some nm):c < 3:=by
 match c,h with
 |0,_=>lia
 |1,_=>lia
 |2,_=>lia
 |_+3,h=>exact nomatch (show (none:Option String)=some nm from h)
theorem inst_get {c k:Nat}{nm:String}{a d:Nat}{es:List DictEntry}{n:Nat}{expr:Bool}{Q:Value→Shared→Prop}{e:DictEntry}(gk:GOk G)(i:Inv G X H s.heap)
  (hnm:(flds c)[k]? = some nm) (ha:s.heap.get? a=some ⟨.ref (G.cls c),some d,.plain,#[]⟩) (hd:s.heap.get? d=some (dictOf es n)) (hk:KeysAre ((flds c).take es.length) es) (he:es[k]? = some e) (hh:handedIn e.val=true)
  (h:Q e.val { s with toks:=s.toks+1 }):wpAny (model G.prog G.w) A (getAttr (.ref a) (S' nm) expr) Q Er s:=by
 have hc:=flds_lt hnm
 obtain⟨at',f1,f2⟩:=gk.cfl c k nm hnm
 have kl:=(List.getElem?_eq_some_iff.mp he).1
 obtain⟨e',e1,e2⟩:=getL_at hk ((List.take_sublist _ _).nodup (flds_nodup c)) (by refine rwI (List.getElem?_take_of_lt kl) ?_;exact hnm)
 rw[he] at e1;cases e1
 exact get_value (gk.X.keeps i.keeps0) (od:=some (dictOf es n)) ⟨ha,rfl,rfl,hd⟩ (gk.cga c hc) (findObj_own (gk.chd c hc) f1 f2 (by refine rwI (lookIn_dict ..) ?_;exact e2)) hh h
set_option tactic.hygienic true in
theorem attr_ok {c k:Nat}{nm:String}{x r:AV}{v:Value}{expr:Bool}{Q:Value→Shared→Prop}(gk:GOk G)(i:Inv G X H s.heap)(hnm:(flds c)[k]? = some nm)(hv:VRel G (Fz H X) s.heap x v)
  (hr:attrOf H c k x=some r) (h:∀ u t,VRel G (Fz H X) s.heap r u→Q u { s with toks:=t }):wpAny (model G.prog G.w) A (getAttr v (S' nm) expr) Q Er s:=by
 have key:∀ {a d n:Nat} {fs:List AV} {es:List DictEntry},s.heap.get? a=some ⟨.ref (G.cls c),some d,.plain,#[]⟩→s.heap.get? d=some (dictOf es n)→KeysAre ((flds c).take es.length) es→VRels G (Fz H X) s.heap fs (es.map (·.val)) →
   fs[k]? = some r→wpAny (model G.prog G.w) A (getAttr (.ref a) (S' nm) expr) Q Er s:=by
  intro a d n fs es g1 g2 kk rs hf
  obtain⟨u,hu,ru⟩:=rs.get hf
  rw[List.getElem?_map,Option.map_eq_some_iff] at hu
  obtain⟨e,he,rfl⟩:=hu
  exact inst_get gk i hnm g1 g2 kk he ru.handed (h _ _ ru)
 cases hv with
 |obj f1 f2 g1 g2 kk rs=>
  replace hr:(if _=c then _ else Option.none)=some r:=hr
  split at hr
  ·rename_i e;subst e;exact key g1 g2 kk rs hr
  ·exact none_some hr
 |ref a=>
  obtain⟨d,fs,hH,hd,hr⟩:=instO_s hr
  obtain⟨es,n,g2,kk,rs⟩:=i.objs _ _ hd
  exact key (i.objs _ _ hH) g2 kk rs hr
 |_=>exact none_some hr
end
section
variable {G:Glo}{X:Nat→Prop}{H:AHeap}{A:Around}{Er:Value→Shared→Prop}{s:Shared}
theorem kv_find {F:Nat→Prop}{h:Heap}{es:List (Int×AV)}{kvs:List (Int×Value)}(hk:kvs.map (·.1)=es.map (·.1))(hr:VRels G F h (es.map (·.2)) (kvs.map (·.2)))(i:Int) :
  (∀ r,es.lookup i=some r→∃ w,valueAt kvs i=some w∧VRel G F h r w)∧(es.lookup i=none→valueAt kvs i=none):=by
 induction es generalizing kvs with
 |nil=>cases kvs with|nil=>exact⟨λr e=>by simp at e,λx_=>rfl⟩|cons _ _=>simp at hk
 |cons e es ih=>
  cases kvs with
  |nil=>simp at hk
  |cons kv kvs=>
   obtain⟨k,x⟩:=e
   obtain⟨k',v⟩:=kv
   simp only[List.map_cons,List.cons.injEq] at hk hr
   obtain⟨rfl,hk⟩:=hk
   cases hr with
   |cons r0 r=>
    obtain⟨ih1,ih2⟩:=ih hk r
    by_cases q:i=k'
    ·subst q
     refine⟨λr' e=>?_,λe=>?_⟩
     ·simp[List.lookup] at e;subst e;exact⟨v,by simp[valueAt],r0⟩
     ·simp[List.lookup] at e
    ·have q1:(i==k')=false:=by simpa using q
     have q2:¬ k'=i:=λe=>q e.symm
     have vq:valueAt ((k',v)::kvs) i=valueAt kvs i:=by simp[valueAt,List.find?_cons,q2]
     refine rwI vq ?_
     simpa[List.lookup,q1] using And.intro ih1 ih2
theorem isList_of {h:Heap}{a n:Nat}{vs:List Value}(e:h.get? a=some { cls:=.type "list",data:=.seq vs.toArray n }):h.IsList a vs.toArray:=⟨_,e,rfl,n,rfl⟩
theorem isTup_of {h:Heap}{a n:Nat}{vs:List Value}(e:h.get? a=some { cls:=.type "tuple",data:=.seq vs.toArray n }):IsTup h a vs.toArray:=⟨_,e,rfl,n,rfl⟩
theorem intIs (i:Int)(t:Tok):(intKind G.prog G.w).is i (.int i t)=true:=intKind_is _ _ _ _
noncomputable def Subable (s:Shared) (v:Value):Prop:=∃ T id,s.TypeIs v T∧typeLookup (.type T) "__getitem__" = pure (some (.builtin id))
set_option tactic.hygienic true in
theorem seqAt {xs:List AV}{vs:List Value}{F:Nat→Prop}{h:Heap}{i:Int}{r:AV}(rs:VRels G F h xs vs)(hr:atIx xs i=some r) :
  ∃ w j,VRel G F h r w∧vs[j]? = some w∧((0≤i∧j=i.toNat∧i < vs.length)∨(i = -1∧0 < vs.length∧j=vs.length - 1)):=by
 unfold atIx at hr
 have hl:=rs.length
 split at hr
 ·rename_i h0
  obtain⟨w,hw,rw'⟩:=rs.get hr
  exact⟨w,_,rw',hw,.inl ⟨h0,rfl,(Int.toNat_lt h0).mp (List.getElem?_eq_some_iff.mp hw).1⟩⟩
 ·split at hr
  ·rename_i h1
   rw[List.getLast?_eq_getElem?,← hl] at hr
   obtain⟨w,hw,rw'⟩:=rs.get hr
   exact⟨w,_,rw',hw,.inr ⟨h1,Nat.lt_of_le_of_lt (Nat.zero_le _) (List.getElem?_eq_some_iff.mp hw).1,rfl⟩⟩
  ·cases hr
theorem last_ix (n:Nat):((-1:Int)+(n:Int)).toNat=n - 1:=(congrArg Int.toNat (Int.add_comm (-1) _)).trans (Int.toNat_sub n 1)
theorem neg_ix {n:Nat}(h:0 < n):-(n:Int)≤-1:=Int.neg_le_neg (Int.ofNat_le.mpr h)
theorem seq_c {i:Int}{j n:Nat}(c:(0≤i∧j=i.toNat∧i < n)∨(i = -1∧0 < n∧j=n - 1)):seqIndex? i n=some j∧-1≤i∧i < n:=by
 rcases c with⟨h0,rfl,hlt⟩|⟨rfl,hp,rfl⟩
 ·exact⟨seqIndex_of h0 hlt,Int.le_trans (by decide) h0,hlt⟩
 ·exact⟨(seqIndex_neg (by decide) (neg_ix hp)).trans (congrArg some (last_ix n)),Int.le_refl _,Int.lt_of_lt_of_le (by decide) (Int.natCast_nonneg n)⟩
theorem lt63 {i:Int}{n:Nat}(h:i < n)(hn:n≤1048576):i < 2 ^ 63:=Int.lt_of_lt_of_le h (Int.le_trans (Int.ofNat_le.mpr hn) (by decide))
theorem list_ix {a n:Nat}{xs:List AV}{vs:List Value}{i:Int}{t:Tok}{r:AV}{Q:Value→Shared→Prop}(g:s.heap.get? a=some { cls:=.type "list",data:=.seq vs.toArray n })(hl:vs.length≤1048576)
  (rs:VRels G (Fz H X) s.heap xs vs) (hr:atIx xs i=some r) (h:∀ w t,VRel G (Fz H X) s.heap r w→Q w { s with toks:=t }):wpAny (model G.prog G.w) A (getItem (.ref a) (.int i t)) Q Er s:=by
 obtain⟨w,j,rw',hw,c⟩:=seqAt rs hr
 rcases c with⟨h0,rfl,hlt⟩|⟨rfl,hp,rfl⟩
 ·exact wpAny_getItem_list (isList_of g) h0 (lt63 hlt hl) (List.getElem?_toArray.trans hw) (h w s.toks rw')
 ·exact wpAny_getItem_list_neg (isList_of g) (by decide) (neg_ix hp) (by decide) (x:=w) (List.getElem?_toArray.trans ((congrArg (vs[·]?) (last_ix _)).trans hw)) (h w s.toks rw')
theorem getIx_int {x j r:AV}(h:getIx H x j=some r):∃ k,j=.int k∧getIxI H k x=some r:=by
 cases j with
 |int k=>exact⟨k,rfl,h⟩
 |_=>exact none_some h
theorem getIx_ok {x j r:AV}{v u:Value}{Q:Value→Shared→Prop}(i:Inv G X H s.heap)(hv:VRel G (Fz H X) s.heap x v)(hu:VRel G (Fz H X) s.heap j u)(hr:getIx H x j=some r)
  (h:∀ w t,VRel G (Fz H X) s.heap r w→Q w { s with toks:=t }):Subable s v∧wpAny (model G.prog G.w) A (getItem v u) Q Er s:=by
 obtain⟨k,rfl,hr⟩:=getIx_int hr
 obtain⟨t,rfl⟩:=hu.int_s
 cases x with
  |tup xs=>
   obtain⟨a,vs,n,rfl,f,g,l,rs⟩:=tup_s hv
   have hr:atIx xs k=some r:=hr
   obtain⟨w,j,rw',hw,c⟩:=seqAt rs hr
   refine⟨⟨_,_,(isTup_of g).typeIs,slot_tuple_getitem.lookup⟩,?_⟩
   exact getItem_tuple (isTup_of g) (Int.le_trans (by decide) (seq_c c).2.1) (lt63 (seq_c c).2.2 l) (seq_c c).1 (List.getElem?_toArray.trans hw) (h w s.toks rw')
  |lst xs=>obtain⟨a,vs,n,rfl,f,g,l,rs⟩:=lst_s hv;exact⟨⟨_,_,(isList_of g).typeIs,slot_list_getitem.lookup⟩,list_ix g l rs hr h⟩
  |ref a=>
   obtain rfl:=hv.ref_s
   replace hr:=getIxO_s hr
   rcases hr with⟨xs,hH,hr⟩|⟨es,hH,hr⟩
   ·obtain⟨vs,n,g,l,rs⟩:=i.objs _ _ hH
    exact⟨⟨_,_,(isList_of g).typeIs,slot_list_getitem.lookup⟩,list_ix g l rs hr h⟩
   ·obtain⟨kvs,hd,l,hk,rs⟩:=i.objs _ _ hH
    obtain⟨w,hw,rw'⟩:=(kv_find hk rs k).1 r hr
    exact⟨⟨_,_,hd.typeIs,slot_dict_getitem.lookup⟩,wpAny_getItem_of (intIs k t) hd.mapOf hw (h w _ rw')⟩
  |_=>exact none_some hr
theorem sub_ok {value slice:Expr}{x j r:AV}{v u:Value}{Q:Value→Shared→Prop}(i:Inv G X H s.heap)(hv:VRel G (Fz H X) s.heap x v)(hu:VRel G (Fz H X) s.heap j u)(hr:getIx H x j=some r)
  (ns:notSlice slice=true) (h:∀ w t,VRel G (Fz H X) s.heap r w→Q w { s with toks:=t }):wpAny (model G.prog G.w) A (subscriptTail value slice v u) Q Er s:=by
 obtain⟨⟨T,id,hT,hl⟩,hg⟩:=getIx_ok i hv hu hr h
 exact tail_any hT hl hg (by cases slice<;>first|rfl|exact (Bool.false_ne_true ns).elim)
theorem truth_ok {x:AV}{v:Value}{b:Bool}{Q:Bool→Shared→Prop}(gk:GOk G)(i:Inv G X H s.heap)(hv:VRel G (Fz H X) s.heap x v)(hr:truth H x=some b)
  (h:∀ t,Q b { s with toks:=t }):wpAny (model G.prog G.w) A (truthy v) Q Er s:=by
 have key:∀ {a n:Nat} {xs:List AV} {vs:List Value},s.heap.get? a=some { cls:=.type "list",data:=.seq vs.toArray n }→vs.length≤1048576→VRels G (Fz H X) s.heap xs vs→(!xs.isEmpty)=b →
   wpAny (model G.prog G.w) A (truthy (.ref a)) Q Er s:=by
  intro a n xs vs g l rs e
  refine wpAny_truthy_list (isList_of g) (by simp only[List.size_toArray];lia) ?_
  have:(!vs.toArray.isEmpty)=b:=by
   refine rwS e ?_;cases rs<;>rfl
  refine rwI this ?_;exact h _
 cases x with
 |none=>obtain rfl:=hv.none_s;(replace hr:=Option.some.inj hr;subst hr);exact truthy_none (h s.toks)
 |bool c=>obtain rfl:=hv.bool_s;(replace hr:=Option.some.inj hr;subst hr);exact wpAny_truthy_bool (h s.toks)
 |int k=>obtain⟨t,rfl⟩:=hv.int_s;(replace hr:=Option.some.inj hr;subst hr);exact truthy_int (h _)
 |lst xs=>obtain⟨a,vs,n,rfl,f,g,l,rs⟩:=lst_s hv;exact key g l rs (Option.some.inj hr)
 |ref a=>
  obtain rfl:=hv.ref_s
  replace hr:=truthO_s hr
  rcases hr with⟨xs,hH,hr⟩|⟨es,hH,hr⟩
  ·obtain⟨vs,n,g,l,rs⟩:=i.objs _ _ hH
   exact key g l rs hr
  ·obtain⟨kvs,hd,l,hk,rs⟩:=i.objs _ _ hH
   have na:=i.notMods hH
   refine wpAny_truthy_dict na hd (by lia) ?_
   have:(!kvs.isEmpty)=b:=by
    refine rwS hr ?_
    have e:=congrArg List.length hk
    rw[List.length_map,List.length_map] at e
    cases kvs with
    |nil=>cases es with
     |nil=>rfl
     |cons _ _=>exact nomatch e
    |cons _ _=>cases es with
     |nil=>exact nomatch e
     |cons _ _=>rfl
   refine rwI this ?_;exact h _
 |_=>exact none_some hr
end
mutual
noncomputable def toPy:AV→PyData:=@λy_1=>match @y_1 with
 |.bool b=>.bool b
 |.int i=>.int i
 |.str s=>.str (S' s)
 |.tup xs=>.tuple (toPys xs)
 |.lst xs=>.list (toPys xs)
 |x_1=>.none
noncomputable def toPys:List AV→List PyData:=@λy_1=>match @y_1 with
 |[]=>[]
 |x::xs=>toPy x::toPys xs
end
theorem S'_beq (a b:String):(S' a==S' b)=(a==b):=by
 by_cases h:a=b
 ·subst h;simp
 ·(refine rwI (beq_eq_false_iff_ne.mpr h) ?_;refine rwI (beq_eq_false_iff_ne.mpr λe=>h (S'_inj e)) ?_;rfl)
theorem strOk_S' (s:String):PyData.strOk (S' s)=true:=by
 unfold PyData.strOk S'
 refine rwI (Str.ofString_eq_toList ..) ?_
 simp only[List.all_toArray,List.all_map,List.all_eq_true]
 intro c _
 have:=c.valid
 simp only[Function.comp,decide_eq_true_eq]
 refine (?_:c.toNat < 1114112)
 rcases this with h|h
 ·exact Nat.lt_trans h (by decide)
 ·exact h.2
theorem py_lay:∀ (n:Nat)(x:AV),plainD n x=true→(toPy x).canLay0=true∧(toPy x).depth≤n:=by
 have p0:∀ (n:Nat) (x:AV),plain0 x=true→(toPy x).canLay0=true∧(toPy x).depth≤n:=λn x h=>by
  cases x with
  |none=>exact⟨rfl,Nat.zero_le _⟩
  |bool b=>exact⟨rfl,Nat.zero_le _⟩
  |int i=>exact⟨rfl,Nat.zero_le _⟩
  |str s=>exact⟨strOk_S' s,Nat.zero_le _⟩
  |_=>exact (Bool.false_ne_true h).elim
 have all:∀ n:Nat,(∀ x,plainD n x=true→(toPy x).canLay0=true∧(toPy x).depth≤n)→∀ xs:List AV,(∀ x∈xs,plainD n x=true)→PyData.canLayAll0 (toPys xs)=true∧PyData.depthAll (toPys xs)≤n:=by
  intro n ih xs
  induction xs with
  |nil=>intro _;exact⟨rfl,Nat.zero_le _⟩
  |cons x xs hi=>
   intro h
   have h1:=ih x (h x (.head _))
   have h2:=hi λy hy=>h y (.tail _ hy)
   exact⟨Bool.and_eq_true_iff.mpr ⟨h1.1,h2.1⟩,Nat.max_le.mpr ⟨h1.2,h2.2⟩⟩
 intro n
 induction n with
 |zero=>exact p0 0
 |succ n ih=>
  intro x h
  cases x with
  |tup xs=>exact (all n ih xs (List.all_eq_true.mp h)).imp id Nat.succ_le_succ
  |lst xs=>exact (all n ih xs (List.all_eq_true.mp h)).imp id Nat.succ_le_succ
  |_=>exact p0 _ _ h
theorem py_layL {n:Nat}{xs:List AV}(h:xs.all (plainD n)=true):PyData.canLayAll0 (toPys xs)=true∧PyData.depthAll (toPys xs)≤n:=
 (py_lay (n+1) (.lst xs) h).imp id Nat.le_of_succ_le_succ
theorem py_shaped {x:AV}(h:plainD 20 x=true):SeqAt.shaped (toPy x)=true:=by
 have:=py_lay 20 x h
 unfold SeqAt.shaped
 (refine rwI this.1 ?_;refine rwI (Bool.true_and ..) ?_)
 exact decide_eq_true (Nat.le_trans this.2 (by decide))
theorem np_ref {n a:Nat}{p:Prop}(h:plainD n (.ref a)=true):p:=by cases n<;>exact (Bool.false_ne_true h).elim
theorem np_obj {n a c:Nat}{fs:List AV}{p:Prop}(h:plainD n (.obj a c fs)=true):p:=by cases n<;>exact (Bool.false_ne_true h).elim
theorem veq_py:∀ (n:Nat)(x y:AV),plainD n x=true→∀ m,plainD m y=true→PyData.eqv (toPy x) (toPy y)=veq x y:=by
 have p0:∀ (x y:AV),plain0 x=true→∀ m,plainD m y=true→PyData.eqv (toPy x) (toPy y)=veq x y:=λx y h m h2=>by
  cases x with
  |none=>cases y with
   |ref a=>exact np_ref h2
   |obj a c fs=>exact np_obj h2
   |_=>rfl
  |bool b=>cases y with
   |ref a=>exact np_ref h2
   |obj a c fs=>exact np_obj h2
   |_=>rfl
  |int i=>cases y with
   |ref a=>exact np_ref h2
   |obj a c fs=>exact np_obj h2
   |_=>rfl
  |str s=>cases y with
   |ref a=>exact np_ref h2
   |obj a c fs=>exact np_obj h2
   |str t=>exact S'_beq s t
   |_=>rfl
  |_=>exact (Bool.false_ne_true h).elim
 have all:∀ n:Nat,(∀ x y,plainD n x=true→∀ m,plainD m y=true→PyData.eqv (toPy x) (toPy y)=veq x y) →
   ∀ (xs ys:List AV) (m:Nat),(∀ x∈xs,plainD n x=true)→(∀ x∈ys,plainD m x=true)→PyData.eqvAll (toPys xs) (toPys ys)=veqs xs ys:=by
  intro n ih xs
  induction xs with
  |nil=>intro ys m _ _;cases ys<;>rfl
  |cons x xs hi=>
   intro ys m h1 h2
   cases ys with
   |nil=>rfl
   |cons y ys=>exact congr (congrArg and (ih x y (h1 x (.head _)) m (h2 y (.head _)))) (hi ys m (λz hz=>h1 z (.tail _ hz)) λz hz=>h2 z (.tail _ hz))
 intro n
 induction n with
 |zero=>exact p0
 |succ n ih=>
  intro x y h1 m h2
  cases x with
  |tup xs=>
   cases y with
   |tup ys=>cases m with
    |zero=>exact (Bool.false_ne_true h2).elim
    |succ m=>exact all n ih xs ys m (List.all_eq_true.mp h1) (List.all_eq_true.mp h2)
   |ref a=>exact np_ref h2
   |obj a c fs=>exact np_obj h2
   |_=>rfl
  |lst xs=>
   cases y with
   |lst ys=>cases m with
    |zero=>exact (Bool.false_ne_true h2).elim
    |succ m=>exact all n ih xs ys m (List.all_eq_true.mp h1) (List.all_eq_true.mp h2)
   |ref a=>exact np_ref h2
   |obj a c fs=>exact np_obj h2
   |_=>rfl
  |_=>exact p0 _ _ h1 m h2
section
variable {G:Glo}{F:Nat→Prop}{h:Heap}
theorem readsAll_ih (n:Nat)(ih:∀ {x:AV}{v:Value},VRel G F h x v→plainD n x=true→∃ as,Reads h v (toPy x) as):∀ {xs:List AV}{vs:List Value},VRels G F h xs vs→(∀ x∈xs,plainD n x=true)→∃ as,ReadsAll h vs (toPys xs) as:=@λy_1=>@λy_2=>@λy_3=>@λy_4=>match @y_1,@y_2,@y_3,@y_4 with
 |[],vs,r,x_1=>by obtain rfl:=r.nil_s;exact⟨_,ReadsAll.nil⟩
 |x::xs,vs,r,hp=>by
  obtain⟨v,ws,rfl,r,rs⟩:=r.cons_s
  obtain⟨as,q⟩:=ih r (hp _ (.head _))
  obtain⟨bs,p⟩:=readsAll_ih n ih rs λx hx=>hp x (.tail _ hx)
  exact⟨_,ReadsAll.cons q p⟩
theorem reads_of:∀ (n:Nat){x:AV}{v:Value},VRel G F h x v→plainD n x=true→∃ as,Reads h v (toPy x) as:=by
 have p0:∀ {x:AV} {v:Value},VRel G F h x v→plain0 x=true→∃ as,Reads h v (toPy x) as:=λ{x v} r hp=>by
  cases x with
  |none=>obtain rfl:=r.none_s;exact⟨[],Reads.none⟩
  |bool b=>obtain rfl:=r.bool_s;exact⟨_,Reads.bool b⟩
  |int i=>obtain⟨t,rfl⟩:=r.int_s;exact⟨_,Reads.int i t⟩
  |str s=>obtain⟨t,rfl⟩:=r.str_s;exact⟨_,Reads.str _ t⟩
  |_=>exact (Bool.false_ne_true hp).elim
 intro n
 induction n with
 |zero=>exact p0
 |succ n ih=>
  intro x v r hp
  cases x with
  |tup xs=>
   obtain⟨a,vs,k,rfl,f,g,l,rs⟩:=tup_s r
   obtain⟨as,q⟩:=readsAll_ih n ih rs (List.all_eq_true.mp hp)
   exact⟨as,reads_tuple_at g rfl rfl q⟩
  |lst xs=>
   obtain⟨a,vs,k,rfl,f,g,l,rs⟩:=lst_s r
   obtain⟨as,q⟩:=readsAll_ih n ih rs (List.all_eq_true.mp hp)
   exact⟨_,reads_list_at g rfl rfl q⟩
  |_=>exact p0 r hp
theorem readsAll_of {xs:List AV}{vs:List Value}(n:Nat)(r:VRels G F h xs vs)(hp:∀ x∈xs,plainD n x=true):∃ as,ReadsAll h vs (toPys xs) as:=readsAll_ih n (reads_of n) r hp
theorem deref_s (H:AHeap)(x:AV):derefL H x=x∨∃ a xs,x=.ref a∧H a=some (.list xs)∧derefL H x=.lst xs:=by
 have key:∀ (a:Nat) (o:Option AObj),derefO a o=.ref a∨∃ xs,o=some (.list xs)∧derefO a o=.lst xs:=λa o=>by
  cases o with
  |none=>exact .inl rfl
  |some o=>cases o with
   |list xs=>exact .inr ⟨xs,rfl,rfl⟩
   |_=>exact .inl rfl
 cases x with
 |ref a=>exact (key a (H a)).imp id λ⟨xs,e,q⟩=>⟨a,xs,rfl,e,q⟩
 |_=>exact .inl rfl
end
section
variable {G:Glo}{X:Nat→Prop}{H:AHeap}{A:Around}{Er:Value→Shared→Prop}{s:Shared}{n:Nat}
theorem deref_reads {x:AV}{v:Value}(i:Inv G X H s.heap)(hv:VRel G (Fz H X) s.heap x v)(hp:plainD 20 (derefL H x)=true):∃ as,Reads s.heap v (toPy (derefL H x)) as:=by
 rcases deref_s H x with e|⟨a,xs,rfl,hH,e⟩<;>rw[e] at hp ⊢
 ·exact reads_of 20 hv hp
 ·obtain rfl:=hv.ref_s
  obtain⟨vs,n,g,l,rs⟩:=i.objs _ _ hH
  obtain⟨as,ra⟩:=readsAll_of 19 rs (List.all_eq_true.mp hp)
  exact⟨_,reads_list_at g rfl rfl ra⟩
set_option tactic.hygienic true in
theorem eq_ok {x y:AV}{v u:Value}{b:Bool}{Q:Value→Shared→Prop}(ao:AOk n A)(i:Inv G X H s.heap)(hv:VRel G (Fz H X) s.heap x v)(hu:VRel G (Fz H X) s.heap y u)(hr:opEq H x y=some b) :
  (Q (.bool b) s→wpAny (model G.prog G.w) A (compareOp .Eq v u) Q Er s)∧(Q (.bool !b) s→wpAny (model G.prog G.w) A (compareOp .NotEq v u) Q Er s):=by
 unfold opEq at hr
 split at hr
 ·rename_i hp
  obtain⟨p1,p2⟩:=Bool.and_eq_true_iff.mp hp
  obtain⟨as,ra⟩:=deref_reads i hv p1
  obtain⟨bs,rb⟩:=deref_reads i hu p2
  have un:=ao.un
  have hc:cLine=9900:=rfl
  have e:=veq_py 20 _ _ p1 20 p2
  rw[Option.some.inj hr] at e
  exact⟨λh=>eq_dataH ra rb (py_shaped p1) (py_shaped p2) (by lia) (by refine rwI e ?_;exact h),λh=>ne_dataH ra rb (py_shaped p1) (py_shaped p2) (by lia) (by refine rwI e ?_;exact h)⟩
 ·cases hr
theorem toPys_c {x:AV}{xs:List AV}:toPys (x::xs)=toPy x::toPys xs:=rfl
theorem any_py {x:AV}{xs:List AV}(p1:plainD 20 x=true)(p2:xs.all (plainD 20)=true):((toPys xs).any λy=>PyData.eqv y (toPy x))=xs.any λy=>veq y x:=by
 induction xs with
 |nil=>rfl
 |cons y ys ih=>
  rw[List.all_cons,Bool.and_eq_true] at p2
  (refine rwI toPys_c ?_;refine rwI List.any_cons ?_;refine rwI List.any_cons ?_;refine rwI (ih p2.2) ?_;refine rwI (veq_py 20 y x p2.1 20 p1) ?_;rfl)
theorem in_lt {u n m d:Nat}(h:u+6 * n≤9000)(hd:d≤20):u+1+min m d < cLine:=
 Nat.lt_of_le_of_lt (Nat.add_le_add (Nat.add_le_add_right (Nat.le_trans (Nat.le_add_right ..) h) 1) (Nat.le_trans (Nat.min_le_right ..) hd)) (by decide)
set_option tactic.hygienic true in
theorem in_ok {x y:AV}{v u:Value}{b:Bool}{Q:Value→Shared→Prop}(ao:AOk n A)(i:Inv G X H s.heap)(hv:VRel G (Fz H X) s.heap x v)(hu:VRel G (Fz H X) s.heap y u)(hr:opIn H x y=some b) :
  ((∀ t,Q (.bool b) { s with toks:=t })→wpAny (model G.prog G.w) A (compareOp .In v u) Q Er s)∧((∀ t,Q (.bool !b) { s with toks:=t })→wpAny (model G.prog G.w) A (compareOp .NotIn v u) Q Er s):=by
 have un:=ao.un
 have hc:cLine=9900:=rfl
 have any_s:∀ {xs:List AV} {vs:List Value},VRels G (Fz H X) s.heap xs vs→anyEq x xs=some b→∃ as bs,ReadsAll s.heap vs (toPys xs) as∧Reads s.heap v (toPy x) bs∧PyData.canLayAll0 (toPys xs)=true∧(toPy x).canLay0=true∧(toPy x).depth≤20∧((toPys xs).any λy=>PyData.eqv y (toPy x))=b:=λ{xs vs} rs e=>by
  replace e:(if _ then _ else Option.none)=some b:=e
  split at e
  ·rename_i hp
   obtain⟨p1,p2⟩:=Bool.and_eq_true_iff.mp hp
   obtain⟨as,ra⟩:=readsAll_of 20 rs (List.all_eq_true.mp p2)
   obtain⟨bs,rb⟩:=reads_of 20 hv p1
   have l2:=py_lay 20 x p1
   exact⟨as,bs,ra,rb,(py_layL p2).1,l2.1,l2.2,(any_py p1 p2).trans (Option.some.inj e)⟩
  ·exact none_some e
 have keyL:∀ {a k:Nat} {xs:List AV} {vs:List Value},s.heap.get? a=some { cls:=.type "list",data:=.seq vs.toArray k }→VRels G (Fz H X) s.heap xs vs→anyEq x xs=some b →
   ((∀ t,Q (.bool b) { s with toks:=t })→wpAny (model G.prog G.w) A (compareOp .In v (.ref a)) Q Er s)∧((∀ t,Q (.bool !b) { s with toks:=t })→wpAny (model G.prog G.w) A (compareOp .NotIn v (.ref a)) Q Er s):=by
  intro a k xs vs g rs e
  obtain⟨as,bs,ra,rb,l1,l2,l3,e'⟩:=any_s rs e
  have rl:=reads_list_at g rfl rfl ra
  exact⟨λh=>SeqAt.in_list_reads rl rb l1 l2 (in_lt ao.un (by assumption)) (by refine rwI e' ?_;exact h s.toks),λh=>SeqAt.notIn_list_reads rl rb l1 l2 (in_lt ao.un (by assumption)) (by refine rwI e' ?_;exact h s.toks)⟩
 cases y with
 |lst xs=>obtain⟨a,vs,k,rfl,f,g,l,rs⟩:=lst_s hu;exact keyL g rs hr
 |tup xs=>
  obtain⟨a,vs,k,rfl,f,g,l,rs⟩:=tup_s hu
  obtain⟨as,bs,ra,rb,l1,l2,l3,e'⟩:=any_s rs hr
  have rl:=reads_tuple_at g rfl rfl ra
  exact⟨λh=>SeqAt.in_tuple_reads rl rb l1 l2 (in_lt ao.un (by assumption)) (by refine rwI e' ?_;exact h s.toks),λh=>SeqAt.notIn_tuple_reads rl rb l1 l2 (in_lt ao.un (by assumption)) (by refine rwI e' ?_;exact h s.toks)⟩
 |ref a=>
  obtain rfl:=hu.ref_s
  replace hr:=opInO_s hr
  rcases hr with⟨xs,hH,hr⟩|⟨es,k,hH,rfl,hr⟩|⟨m,k,hH,rfl,hr⟩
  ·obtain⟨vs,k,g,l,rs⟩:=i.objs _ _ hH
   exact keyL g rs hr
  ·obtain⟨kvs,hd,l,hk,rs⟩:=i.objs _ _ hH
   have na:=i.notMods hH
   have e:(valueAt kvs k).isSome=b:=by
    refine rwS hr ?_
    obtain⟨q1,q2⟩:=kv_find hk rs k
    cases q:es.lookup k with
    |none=>refine rwI (q2 q) ?_;rfl
    |some r=>obtain⟨w,hw,_⟩:=q1 r q;refine rwI hw ?_;rfl
   obtain⟨t,rfl⟩:=hv.int_s
   exact⟨λh=>wpAny_in_of (intIs k t) na hd.mapOf (by refine rwI e ?_;exact h _),λh=>wpAny_notIn_of (intIs k t) na hd.mapOf (by refine rwI e ?_;exact h _)⟩
  ·obtain⟨hS,_⟩:=i.objs _ _ hH
   obtain⟨t,rfl⟩:=hv.int_s
   subst hr
   exact⟨λh=>wpAny_inSet_of (intIs k t) rfl hS (h _),λh=>wpAny_notInSet_of (intIs k t) rfl hS (h _)⟩
 |_=>exact none_some hr
noncomputable def isNil:AV→Bool:=@λy_1=>match @y_1 with
 |.none=>true
 |x_1=>false
noncomputable def IsS (x y:AV) (b:Bool):Prop:=(y=.none∧isNil x=b)∨∃ a c fs a' c' fs',x=.obj a c fs∧y=.obj a' c' fs'∧(a==a')=b
theorem opIs_s {x y:AV}{b:Bool}(h:opIs x y=some b):IsS x y b:=by
 cases y with
 |none=>cases x with
  |none=>exact .inl ⟨rfl,Option.some.inj h⟩
  |ref a=>exact .inl ⟨rfl,Option.some.inj h⟩
  |obj a c fs=>exact .inl ⟨rfl,Option.some.inj h⟩
  |_=>exact none_some h
 |obj a' c' fs'=>
  cases x with
  |obj a c fs=>exact .inr ⟨a,c,fs,a',c',fs',rfl,rfl,Option.some.inj h⟩
  |_=>exact none_some h
 |_=>cases x<;>exact none_some h
theorem isNil_s {F:Nat→Prop}{h:Heap}{x:AV}{v:Value}(hv:VRel G F h x v):(v==.none)=isNil x:=by cases hv<;>rfl
theorem obj_s {F:Nat→Prop}{h:Heap}{a c:Nat}{fs:List AV}{v:Value}(r:VRel G F h (.obj a c fs) v):v=.ref a∧∃ o:Obj,h.get? a=some o∧o.cls=.ref (G.cls c):=by
 cases r with|obj f1 f2 g1 g2 kk rs=>exact⟨rfl,_,g1,rfl⟩
theorem is_ok {x y:AV}{v u:Value}{b:Bool}{Q:Value→Shared→Prop}(i:Inv G X H s.heap)(hv:VRel G (Fz H X) s.heap x v)(hu:VRel G (Fz H X) s.heap y u)(hr:opIs x y=some b) :
  (Q (.bool b) s→wpAny (model G.prog G.w) A (compareOp .Is v u) Q Er s)∧(Q (.bool !b) s→wpAny (model G.prog G.w) A (compareOp .IsNot v u) Q Er s):=by
 replace hr:=opIs_s hr
 rcases hr with⟨rfl,e⟩|⟨a1,c1,fs1,a2,c2,fs2,rfl,rfl,e⟩
 ·obtain rfl:=hu.none_s
  have e:=(isNil_s hv).trans e
  exact⟨λh=>is_none (by refine rwI e ?_;exact h),λh=>isNot_none (by refine rwI e ?_;exact h)⟩
 ·obtain⟨rfl,o1,g1,d1⟩:=obj_s hv
  obtain⟨rfl,o2,g2,d2⟩:=obj_s hu
  subst e
  by_cases q:a1=a2
  ·subst q
   refine rwI (beq_self_eq_true ..) ?_
   exact⟨λh=>wpAny_is_ref_self h,λh=>wpAny_isNot_ref_self h⟩
  ·refine rwI (beq_eq_false_iff_ne.mpr q) ?_
   exact⟨λh=>wpAny_is_ref_other q g1 g2 (by refine rwI d1 ?_;exact λh=>nomatch h) h,λh=>wpAny_isNot_ref_other q g1 g2 (by refine rwI d1 ?_;exact λh=>nomatch h) h⟩
theorem cm_ok {op:Cm}{x y:AV}{v u:Value}{b:Bool}{Q:Value→Shared→Prop}(ao:AOk n A)(i:Inv G X H s.heap)(hv:VRel G (Fz H X) s.heap x v)(hu:VRel G (Fz H X) s.heap y u)(hr:opCm H op x y=some b)
  (h:∀ t,Q (.bool b) { s with toks:=t }):wpAny (model G.prog G.w) A (compareOp (cmOf op) v u) Q Er s:=by
 have ord:ordOf op x y=some b→(∀ {i j:Int} {t t':Tok} {b:Bool},opOrd op i j=some b→Q (.bool b) s→wpAny (model G.prog G.w) A (compareOp (cmOf op) (.int i t) (.int j t')) Q Er s)→wpAny (model G.prog G.w) A (compareOp (cmOf op) v u) Q Er s:=λe k=>by
  obtain⟨i,j,rfl,rfl,e⟩:=ordOf_s e
  obtain⟨t,rfl⟩:=hv.int_s
  obtain⟨t',rfl⟩:=hu.int_s
  exact k e (h s.toks)
 cases op with
 |eq=>exact (eq_ok ao i hv hu hr).1 (h s.toks)
 |ne=>obtain⟨c,hc,rfl⟩:=map_s hr;exact (eq_ok ao i hv hu hc).2 (h s.toks)
 |is=>exact (is_ok i hv hu hr).1 (h s.toks)
 |isnt=>obtain⟨c,hc,rfl⟩:=map_s hr;exact (is_ok i hv hu hc).2 (h s.toks)
 |isin=>exact (in_ok ao i hv hu hr).1 h
 |notin=>obtain⟨c,hc,rfl⟩:=map_s hr;exact (in_ok ao i hv hu hc).2 h
 |lt=>exact ord hr λe q=>PyProof.Rows.lt_int (by refine rwI (Option.some.inj e) ?_;exact q)
 |le=>exact ord hr λe q=>PyProof.Rows.le_int (by refine rwI (Option.some.inj e) ?_;exact q)
 |gt=>exact ord hr λe q=>PyProof.Rows.gt_int (by refine rwI (Option.some.inj e) ?_;exact q)
 |ge=>exact ord hr λe q=>PyProof.Rows.ge_int (by refine rwI (Option.some.inj e) ?_;exact q)
end
theorem len_S' (a:String):(S' a).length=a.length:=by
 unfold S'
 refine rwI (Str.ofString_eq_toList ..) ?_
 simp[Str.length,String.length_toList]
theorem small_bits {i:Int}(h:smallInt i=true):Builtin.Int.intBits i≤64:=by
 have h:=of_decide_eq_true h
 have h:i.natAbs < 2 ^ 64:=h
 exact intBits_le_64 (Int.neg_lt_of_neg_lt (Int.lt_of_le_of_lt Int.le_natAbs (by refine rwI (Int.natAbs_neg ..) ?_;exact Int.ofNat_lt.mpr h))) (Int.lt_of_le_of_lt Int.le_natAbs (Int.ofNat_lt.mpr h))
theorem small_log {b:Int}(h:smallInt b=true):b.natAbs.log2 < 9000:=by
 have q2:=of_decide_eq_true h
 have:b.natAbs.log2 < 64:=by
  by_cases z:b.natAbs=0
  ·refine rwI z ?_;decide
  ·exact (Nat.log2_lt z).mpr q2
 lia
theorem pow_room {c:Nat}{b:Int}(h1:c≤64)(h2:0≤b)(h3:b≤64):(c:Int) * b≤2 ^ 27:=by
 have:(c:Int)≤64:=by lia
 calc (c:Int) * b≤64 * 64:=Int.mul_le_mul this h3 h2 (by decide)
  _≤2 ^ 27:=by decide
section
variable {G:Glo}{X:Nat→Prop}{H:AHeap}{A:Around}{Er:Value→Shared→Prop}{s:Shared}{n:Nat}
theorem bin_ok {op:Bin}{x y r:AV}{v u:Value}{Q:Value→Shared→Prop}(i:Inv G X H s.heap)(hv:VRel G (Fz H X) s.heap x v)(hu:VRel G (Fz H X) s.heap y u)(hr:opBin op x y=some r)
  (h:∀ w s',St G X No H s H s'→VRel G (Fz H X) s'.heap r w→Q w s'):wpAny (model G.prog G.w) A (binaryOp (opOf op) v u) Q Er s:=by
 have hi':∀ (k:Int),r=.int k→Q (.int k s.toks) { s with toks:=s.toks+1 }:=λk e=>by
  subst e;exact h _ _ ((St.start i).toks _) (.int _ _)
 replace hr:=opBin_s hr
 rcases hr with⟨a,b,rfl,rfl,hr⟩|⟨a,b,rfl,rfl,hr⟩|⟨a,b,rfl,rfl,hr⟩
 ·obtain⟨t,rfl⟩:=hv.int_s
  obtain⟨t',rfl⟩:=hu.int_s
  clear hv hu h i
  cases op with
  |add=>exact PyProof.Rows.add_int (hi' _ (Option.some.inj hr).symm)
  |sub=>exact PyProof.Rows.sub_int' (hi' _ (Option.some.inj hr).symm)
  |mul=>
   obtain⟨q,e⟩:=if_s hr
   refine PyProof.Rows.mul_int (hi' _ e.symm) ?_
   rcases Bool.or_eq_true_iff.mp q with q|q
   ·exact IntMulOk.of_left (small_bits q)
   ·exact IntMulOk.of_right (small_bits q)
  |div=>
   obtain⟨q,e⟩:=if_s hr
   obtain⟨q1,q2⟩:=Bool.and_eq_true_iff.mp q
   exact PyProof.Rows.floordiv_int (bne_iff_ne.mp q1) (hi' _ e.symm) (.inl (PyProof.noPylong_of_log2 (small_log q2)))
  |mod=>
   obtain⟨q,e⟩:=if_s hr
   exact PyProof.Rows.mod_int' (bne_iff_ne.mp q) (hi' _ e.symm)
  |pow=>
   obtain⟨q,e⟩:=if_s hr
   obtain⟨q,q3⟩:=Bool.and_eq_true_iff.mp q
   obtain⟨q1,q2⟩:=Bool.and_eq_true_iff.mp q
   exact PyProof.Rows.pow_int (of_decide_eq_true q2) (pow_room (small_bits q1) (of_decide_eq_true q2) (of_decide_eq_true q3)) (hi' _ e.symm)
  |xor=>exact PyProof.Rows.xor_int (hi' _ (Option.some.inj hr).symm)
 ·obtain⟨t,rfl⟩:=hv.str_s
  obtain⟨t',rfl⟩:=hu.str_s
  obtain⟨rfl,q,rfl⟩:=add_s hr
  refine PyProof.Rows.add_str (λt' tk=>?_) ?_
  ·refine h _ { s with toks:=tk } ((St.start i).toks _) ?_
   have:=S'_append
   unfold S' at this
   refine rwS (this ..) ?_
   exact .str _ _
  ·have e1:=len_S'
   unfold S' at e1
   (refine rwI (e1 ..) ?_;refine rwI (e1 ..) ?_;refine rwI sizeLine_eq ?_);lia
 ·obtain⟨a1,vs,k,rfl,f1,g1,l1,r1⟩:=lst_s hv
  obtain⟨a2,ws,k',rfl,f2,g2,l2,r2⟩:=lst_s hu
  obtain⟨rfl,q,rfl⟩:=add_s hr
  have z1:=r1.length
  have z2:=r2.length
  have p2:=size_free i
  refine P.add_list g1 g2 (h _ { s with heap:=s.heap.push { cls:=.type "list",data:=.seq (vs.toArray++ws.toArray) } } ⟨i.grow (push_keeps _ _),Steps.grow (push_keeps _ _),⟨rfl,rfl⟩⟩ ?_) (by simp only[List.size_toArray];refine rwI sizeLine_eq ?_;lia)
  refine .lst (vs:=vs++ws) (n:=0) p2 ?_ (by refine rwI List.length_append ?_;lia) ((r1.append r2).mono λb o f e=>⟨push_keeps _ _ b o e,f⟩)
  have:=Heap.get?_push_size s.heap (o:={ cls:=.type "list",data:=.seq (vs.toArray++ws.toArray) }) rfl
  simpa using this
theorem len_ok {x:AV}{v:Value}{r:Int}{Q:Value→Shared→Prop}(i:Inv G X H s.heap)(hv:VRel G (Fz H X) s.heap x v)(hr:lenOf H x=some r)
  (h:∀ t t',Q (.int r t) { s with toks:=t' }):wpAny (model G.prog G.w) A (call (.builtin "len") [v]) Q Er s:=by
 have key:∀ {a k:Nat} {xs:List AV} {vs:List Value},s.heap.get? a=some { cls:=.type "list",data:=.seq vs.toArray k }→vs.length≤1048576→VRels G (Fz H X) s.heap xs vs→(xs.length:Int)=r →
   wpAny (model G.prog G.w) A (call (.builtin "len") [.ref a]) Q Er s:=by
  intro a k xs vs g l rs e
  refine Calls.call_len_list (isList_of g) (by simp only[List.size_toArray];lia) ?_
  have:((vs.toArray.size:Nat):Int)=r:=by (refine rwS e ?_;refine rwI List.size_toArray ?_;refine rwI rs.length ?_;rfl)
  refine rwI this ?_;exact h _ _
 cases x with
 |lst xs=>obtain⟨a,vs,k,rfl,f,g,l,rs⟩:=lst_s hv;exact key g l rs (Option.some.inj hr)
 |tup xs=>
  obtain⟨a,vs,k,rfl,f,g,l,rs⟩:=tup_s hv
  refine PyProof.Rows.len_tuple (isTup_of g) (by simp only[List.size_toArray];lia) ?_
  have:((vs.toArray.size:Nat):Int)=r:=by (refine rwS (show (xs.length:Int)=r from Option.some.inj hr) ?_;refine rwI List.size_toArray ?_;refine rwI rs.length ?_;rfl)
  refine rwI this ?_;exact h _ _
 |ref a=>
  obtain rfl:=hv.ref_s
  obtain⟨xs,hH,hr⟩:=lenO_s hr
  obtain⟨vs,k,g,l,rs⟩:=i.objs _ _ hH
  exact key g l rs hr
 |_=>exact none_some hr
end
inductive PV (G:Glo)(X:Nat→Prop)(H₀:AHeap)(s₀:Shared)(R:AV→AHeap→Prop)(v:Value)(s:Shared):Prop
 |mk (x:AV) (H:AHeap):R x H→St G X No H₀ s₀ H s→VRel G (Fz H X) s.heap x v→PV G X H₀ s₀ R v s
section
variable {G:Glo}{X:Nat→Prop}{H H₀:AHeap}{A:Around}{Er:Value→Shared→Prop}{s s₀:Shared}{n:Nat}{R:AV→AHeap→Prop}{pos:Pos}
theorem fz_upd {a:Nat}{o o':AObj}(ha:H a=some o):∀ b,Fz H X b→Fz (upd H a o') X b:=λb f=>by
 have n:b≠a:=by rintro rfl;rw[f.1] at ha;exact none_some ha
 exact⟨(upd_ne _ n).trans f.1,f.2⟩
theorem VRel.chg {a:Nat}{o o':AObj}{h h':Heap}{x:AV}{v:Value}(ha:H a=some o)(hs:Heap.SameBut a h h')(r:VRel G (Fz H X) h x v):VRel G (Fz (upd H a o') X) h' x v:=
 r.mono λb ob f g=>⟨(hs.2 b (by rintro rfl;rw[f.1] at ha;cases ha)).trans g,fz_upd ha b f⟩
theorem VRels.chg {a:Nat}{o o':AObj}{h h':Heap}{x:List AV}{v:List Value}(ha:H a=some o)(hs:Heap.SameBut a h h')(r:VRels G (Fz H X) h x v):VRels G (Fz (upd H a o') X) h' x v:=
 r.mono λb ob f g=>⟨(hs.2 b (by rintro rfl;rw[f.1] at ha;exact none_some ha)).trans g,fz_upd ha b f⟩
theorem St.change {O:Nat→Prop}{a:Nat}{o o':AObj}{h':Heap}{t:Nat}(st:St G X O H₀ s₀ H s)(ha:H a=some o)(hs:Heap.SameBut a s.heap h')(ho:ObjRel G (Fz (upd H a o') X) h' a o') :
  St G X O H₀ s₀ (upd H a o') { s with heap:=h',toks:=t }:=
 ⟨st.inv.change ha hs ho,st.steps.trans (Steps.change ha hs),st.same.trans ⟨rfl,rfl⟩⟩
theorem list_change {a k:Nat}{xs xs':List AV}{vs vs':List Value}{f:Array Value→Array Value}(st:St G X No H₀ s₀ H s)(ha:H a=some (.list xs))
  (g:s.heap.get? a=some { cls:=.type "list",data:=.seq vs.toArray k }) (hf:f vs.toArray=vs'.toArray) (hl:vs'.length≤1048576) (rs:VRels G (Fz H X) s.heap xs' vs') (t:Nat) :
  St G X No H₀ s₀ (upd H a (.list xs')) { s with heap:=s.heap.update a (Obj.mapSeq f),toks:=t }:=by
 have hs:=Heap.SameBut.update s.heap a (Obj.mapSeq f)
 have:=IsL.update (h:=s.heap) (l:=a) (items:=vs.toArray) (n:=k) g f
 rw[hf] at this
 exact st.change ha hs ⟨vs',_,this,hl,rs.chg ha hs⟩
theorem append_ok {l:Addr}{x:Sem Value}
  (h:wpAny (model G.prog G.w) A x (λu s₁=>∃ y H₁,St G X No H₀ s₀ H₁ s₁∧VRel G (Fz H₁ X) s₁.heap y u∧opAppend H₁ (.ref l) y R) Er s) :
  wpAny (model G.prog G.w) A (callWith pos (.builtin "list.append") [.ref l] [(false,x)] []) (PV G X H₀ s₀ R) Er s:=by
 refine P.append_list (wpAny_mono h (λu s₁ pz1=>?_) λx_ x_ e=>e)
 obtain⟨y,H₁,st,ru,a,xs,ho,ha,hl,q⟩:=pz1
 cases ho
 obtain⟨vs,k,g,l',rs⟩:=st.inv.objs _ _ ha
 have e:=rs.length
 exact⟨vs.toArray,k,by simp only[List.size_toArray];refine rwI sizeLine_eq ?_;lia,g,_,_,q,list_change st ha g (vs':=vs++[u]) (by simp) (by refine rwI List.length_append ?_;simp;lia) (rs.append (.cons ru .nil)) s₁.toks,.none⟩
set_option tactic.hygienic true in
theorem pop_ok {l:Addr}(st:St G X No H₀ s₀ H s)(h:opPop H (.ref l) R) :
  wpAny (model G.prog G.w) A (callWith pos (.builtin "list.pop") [.ref l] [] []) (PV G X H₀ s₀ R) Er s:=by
 obtain⟨a,xs,x,ho,ha,hl,q⟩:=h
 cases ho
 obtain⟨vs,k,g,l',rs⟩:=st.inv.objs _ _ ha
 obtain⟨ws,us,rfl,r1,r2⟩:=rs.split
 have e:=r1.length
 cases r2 with
 |cons r0 rn=>
  cases rn
  rename_i y
  refine P.pop_list (items:=(ws++[y]).toArray) g (y:=y) (by simp) ?_ (by simp only[List.size_toArray,List.length_append,List.length_singleton];refine rwI sizeLine_eq ?_;lia)
  have hs:=Heap.SameBut.update s.heap l (Obj.mapSeq λxs=>xs.eraseIdxIfInBounds ((ws++[y]).toArray.size - 1))
  refine⟨_,_,q,list_change st ha g (vs':=ws) (by simp[List.eraseIdx_append_of_length_le]) (by rw[List.length_append] at l';lia) r1 s.toks,r0.chg ha hs⟩
theorem get_ok {l:Addr}{x y:Sem Value}
  (h:wpAny (model G.prog G.w) A x (λu s₁=>wpAny (model G.prog G.w) A y (λw s₂=>∃ k d H₂,St G X No H₀ s₀ H₂ s₂∧VRel G (Fz H₂ X) s₂.heap k u∧VRel G (Fz H₂ X) s₂.heap d w∧opGet H₂ (.ref l) k d R) Er s₁) Er s)
  (nm:(l==sysModules)=false) :
  wpAny (model G.prog G.w) A (callWith pos (.builtin "dict.get") [.ref l] [(false,x),(false,y)] []) (PV G X H₀ s₀ R) Er s:=by
 refine wpAny_dict_get2 (knd:=intKind G.prog G.w) nm (wpAny_mono h (λu s₁ h₁=>wpAny_mono h₁ (λw s₂ pz2=>?_) λx_ x_ e=>e) λx_ x_ e=>e)
 obtain⟨k,d,H₂,st,rk,rd,a,es,i,ho,ha,hk,q⟩:=pz2
 cases ho;subst hk
 cases rk with
 |int i t=>
  obtain⟨kvs,hd,l',hk,rs⟩:=st.inv.objs _ _ ha
  refine⟨i,_,intIs i t,hd.mapOf,_,_,q,st.toks _,?_⟩
  obtain⟨q1,q2⟩:=kv_find hk rs i
  cases e:es.lookup i with
  |none=>refine rwI (q2 e) ?_;exact rd
  |some r=>obtain⟨w',e1,e2⟩:=q1 r e;refine rwI e1 ?_;exact e2
theorem dict_change {a:Nat}{es es':List (Int×AV)}{kvs':List (Int×Value)}{h':Heap}(st:St G X No H₀ s₀ H s)(ha:H a=some (.dict es))
  (hd:h'.DictOf (intKind G.prog G.w) a kvs') (hs:Heap.SameBut a s.heap h') (hl:kvs'.length≤1048576) (hk:kvs'.map (·.1)=es'.map (·.1)) (rs:VRels G (Fz H X) s.heap (es'.map (·.2)) (kvs'.map (·.2))) (t:Nat) :
  St G X No H₀ s₀ (upd H a (.dict es')) { s with heap:=h',toks:=t }:=
 st.change ha hs ⟨kvs',hd,hl,hk,rs.chg ha hs⟩
theorem kv_without {F:Nat→Prop}{h:Heap}{es:List (Int×AV)}{kvs:List (Int×Value)}(hk:kvs.map (·.1)=es.map (·.1))(hr:VRels G F h (es.map (·.2)) (kvs.map (·.2)))(i:Int) :
  (without kvs i).map (·.1)=(es.filter λp=>p.1 != i).map (·.1)∧VRels G F h ((es.filter λp=>p.1 != i).map (·.2)) ((without kvs i).map (·.2)):=by
 induction es generalizing kvs with
 |nil=>cases kvs with|nil=>exact⟨rfl,.nil⟩|cons _ _=>simp at hk
 |cons e es ih=>
  cases kvs with
  |nil=>simp at hk
  |cons kv kvs=>
   obtain⟨k,x⟩:=e
   obtain⟨k',v⟩:=kv
   simp only[List.map_cons,List.cons.injEq] at hk hr
   obtain⟨rfl,hk⟩:=hk
   cases hr with
   |cons r0 r=>
    obtain⟨i1,i2⟩:=ih hk r
    unfold without at i1 i2 ⊢
    by_cases q:k'=i
    ·subst q;simpa[-decide_not] using And.intro i1 i2
    ·have q1:(k' != i)=true:=by simpa using q
     simp only[List.filter_cons,q1,decide_not,q,decide_false,Bool.not_false,if_true,List.map_cons]
     simp only[decide_not] at i1 i2
     exact⟨by (refine rwI i1 ?_;rfl),.cons r0 i2⟩
theorem kv_stored {F:Nat→Prop}{h:Heap}{es:List (Int×AV)}{kvs:List (Int×Value)}{x:AV}{v:Value}(hk:kvs.map (·.1)=es.map (·.1))(hr:VRels G F h (es.map (·.2)) (kvs.map (·.2)))(i:Int)(rv:VRel G F h x v)
  (nd:(kvs.map (·.1)).Nodup):(stored kvs i v).map (·.1)=(putE es i x).map (·.1)∧VRels G F h ((putE es i x).map (·.2)) ((stored kvs i v).map (·.2)):=by
 induction es generalizing kvs with
 |nil=>cases kvs with|nil=>exact⟨rfl,.cons rv .nil⟩|cons _ _=>simp at hk
 |cons e es ih=>
  cases kvs with
  |nil=>simp at hk
  |cons kv kvs=>
   obtain⟨k,y⟩:=e
   obtain⟨k',w⟩:=kv
   simp only[List.map_cons,List.cons.injEq] at hk hr
   obtain⟨rfl,hk⟩:=hk
   cases hr with
   |cons r0 r=>
    rw[List.map_cons,List.nodup_cons] at nd
    by_cases q:k'=i
    ·subst q
     have e:stored ((k',w)::kvs) k' v=(k',v)::kvs:=by
      unfold stored
      (refine rwI (if_pos (by simp)) ?_;refine rwI List.map_cons ?_)
      simp only[if_true,List.cons.injEq,true_and]
      refine (List.map_congr_left λp hp=>?_).trans (List.map_id _)
      refine rwI (if_neg λe=>nd.1 (List.mem_map.mpr ⟨p,hp,e⟩)) ?_;rfl
     refine rwI e ?_
     refine rwI (putE_c.trans (if_pos rfl)) ?_
     simp only[List.map_cons]
     exact⟨by (refine rwI hk ?_;rfl),.cons rv r⟩
    ·obtain⟨i1,i2⟩:=ih hk r nd.2
     have e:stored ((k',w)::kvs) i v=(k',w)::stored kvs i v:=by
      unfold stored
      simp only[List.any_cons,q,decide_false,Bool.false_or,List.map_cons,if_false]
      split<;>rfl
     refine rwI e ?_
     refine rwI (putE_c.trans (if_neg q)) ?_
     simp only[List.map_cons]
     exact⟨by (refine rwI i1 ?_;rfl),.cons r0 i2⟩
theorem dpop_ok {l:Addr}{x y:Sem Value}
  (h:wpAny (model G.prog G.w) A x (λu s₁=>wpAny (model G.prog G.w) A y (λw s₂=>w=.none∧∃ k H₂,St G X No H₀ s₀ H₂ s₂∧VRel G (Fz H₂ X) s₂.heap k u∧opDpop H₂ (.ref l) k R) Er s₁) Er s)
  (nm:(l==sysModules)=false) :
  wpAny (model G.prog G.w) A (callWith pos (.builtin "dict.pop") [.ref l] [(false,x),(false,y)] []) (PV G X H₀ s₀ R) Er s:=by
 refine method2_meetsIn F.slot_dict_pop F.entry_dict_pop (wpAny_mono h (λu s₁ h₁=>wpAny_mono h₁ (λw s₂ pz3=>?_) λx_ x_ e=>e) λx_ x_ e=>e)
 obtain⟨hw,k,H₂,st,rk,a,es,i,ho,ha,hk,q⟩:=pz3
 cases ho;subst hk;subst hw
 cases rk with
 |int i t=>
  obtain⟨kvs,hd,l',hk,rs⟩:=st.inv.objs _ _ ha
  refine⟨hd.typeIs,F.args_dict_pop_3 _ _ _,?_⟩
  obtain⟨q1,q2⟩:=kv_find hk rs i
  obtain⟨w1,w2⟩:=kv_without hk rs i
  refine ocase (o:=es.lookup i) (λe=>?_) λr e=>?_
  ·
   have e2:=q2 e
   have ef:(es.filter λp=>p.1 != i)=es:=by
    refine rwI (propext List.filter_eq_self) ?_
    intro p hp
    refine rwI (propext bne_iff_ne) ?_;rintro rfl
    have:=List.lookup_eq_none_iff.mp e p hp
    simp at this
   refine⟨_,meets_dict_pop_default (intKind G.prog G.w) l (intIs i t) nm rfl .none,kvs,hd,e2,⟨_,_,q,?_,?_⟩⟩
   ·refine rwI ef ?_
    refine⟨?_,st.steps.trans ?_,st.same.trans ⟨rfl,rfl⟩⟩
    ·exact st.inv.change ha ⟨rfl,λx_ x_=>rfl⟩ ⟨kvs,hd,l',hk,rs.chg ha ⟨rfl,λx_ x_=>rfl⟩⟩
    ·exact Steps.change ha ⟨rfl,λx_ x_=>rfl⟩
   ·refine rwI e ?_;exact .none
  ·
   obtain⟨w',e1,e2⟩:=q1 r e
   refine⟨_,meets_dict_pop_there (intKind G.prog G.w) l (intIs i t) [.none] (.inr ⟨_,rfl⟩) rfl,kvs,w',hd,by refine rwI sizeLine_eq ?_;lia,e1,λh' hd' hs=>⟨_,_,q,?_,?_⟩⟩
   ·exact dict_change st ha hd' hs (Nat.le_trans (by rw[without];exact List.length_filter_le _ _) l') w1 w2 _
   ·refine rwI e ?_;exact e2.chg ha hs
theorem setItem_list {l k:Nat}{vs:List Value}{i:Int}{t:Tok}{v:Value}{Q:Unit→Shared→Prop}(g:s.heap.get? l=some { cls:=.type "list",data:=.seq vs.toArray k })
  (h0:0≤i) (hfit:i < 2 ^ 63) (hn:i < vs.length) (h:Q () { s with heap:=s.heap.update l (Obj.mapSeq (·.setIfInBounds i.toNat v)) }) :
  wpAny (model G.prog G.w) A (setItem (.ref l) (.int i t) v) Q Er s:=by
 have hl:s.heap.IsList l vs.toArray:=isList_of g
 unfold setItem
 try with_reducible refine wpAny_holding ?_
 refine wpAny_bind (wpAny_sequenceKey hl.typeIs (by decide) ?_)
 refine wpAny_bind (wpAny_callSpecial?_slot (name:=Str.ofString "__setitem__") hl.typeIs slot_list_setitem
  (wpAny_call_entry slot_list_setitem hl.typeIs entry_list_setitem ?_ (args_list_setitem _ _ _)))
 refine (?_:wpAny _ _ (Builtin.List.listSubscript? (.int i t) >>= _) _ _ s)
 refine wpAny_bind (wpAny_listSubscript_int (fitsIndex_of h0 hfit) ?_)
 clear hfit
 obtain⟨j,rfl⟩:=Int.eq_ofNat_of_zero_le h0
 have hj:j < vs.toArray.size:=by simp only[List.size_toArray];lia
 have hx':vs.toArray[j]? = some vs.toArray[j]:=Array.getElem?_eq_getElem hj
 refine (?_:wpAny _ _ ((seqItemAt l j >>= λr=>pure (r.map (j,·))) >>= _) _ _ s)
 refine wpAny_bind (wpAny_bind (wpAny_seqItemAt g rfl (wpAny_pure ?_)))
 refine rwI hx' ?_
 refine (?_:wpAny _ _ (setSeqItemAt l j v >>= _) _ _ s)
 exact wpAny_bind (wpAny_setSeqItemAt g rfl (wpAny_pure ⟨.none,rfl,wpAny_pure h⟩))
theorem DictOf.nodup {h:Heap}{a:Addr}{kvs:List (Int×Value)}(hd:h.DictOf (intKind G.prog G.w) a kvs):(kvs.map (·.1)).Nodup:=by obtain⟨o,h,r⟩:=Heap.dictOf_iff.mp hd;exact keysNodup_of_isDictOf r
theorem stored_len (kvs:List (Int×Value))(i:Int)(v:Value):(stored kvs i v).length≤kvs.length+1:=by
 unfold stored;split<;>simp
theorem setItem_ok {v u w:Value}{o i x:AV}{P:AHeap→Prop}(st:St G X No H₀ s₀ H s)(ro:VRel G (Fz H X) s.heap o v)(ri:VRel G (Fz H X) s.heap i u)(rx:VRel G (Fz H X) s.heap x w)(h:opSetI H o i x P) :
  wpAny (model G.prog G.w) A (setItem v u w) (λx_ s'=>∃ H',P H'∧St G X No H₀ s₀ H' s') Er s:=by
 obtain⟨a,k,rfl,rfl,h⟩:=h
 cases ro
 cases ri
 rcases h with⟨xs,ha,h0,hlt,hl,q⟩|⟨es,ha,hl,q⟩
 ·obtain⟨vs,n,g,l,rs⟩:=st.inv.objs _ _ ha
  have e:=rs.length
  exact setItem_list g h0 (by lia) (by lia) ⟨_,q,list_change st ha g (vs':=vs.set k.toNat w) (by simp) (by simpa using l) (rs.set rx _) s.toks⟩
 ·obtain⟨kvs,hd,l,hk,rs⟩:=st.inv.objs _ _ ha
  have e:kvs.length=es.length:=by (refine rwS (List.length_map (f:=λp:Int×Value=>p.1)) ?_;refine rwI hk ?_;refine rwI (List.length_map ..) ?_;rfl)
  obtain⟨k1,k2⟩:=kv_stored hk rs k rx (DictOf.nodup hd)
  have:=stored_len kvs k w
  exact wpAny_setItem_pairs (intIs k _) hd (λh' hd' hs=>⟨_,q,dict_change st ha hd' hs (by lia) k1 k2 _⟩) (by refine rwI sizeLine_eq ?_;lia)
noncomputable def eqI (i:Int) (y:Value):Bool:=match y with|.int j _=>j==i|_=>false
theorem count_aux {F:Nat→Prop}{h:Heap}{xs:List AV}{vs:List Value}{is:List Int}(i:Int)(t:Tok)(hxs:intsOf xs=some is)(rs:VRels G F h xs vs) :
  (∀ y∈vs,MeetsSeq.EqGives y (.int i t) (eqI i y))∧vs.countP (eqI i)=(is.filter (· == i)).length:=by
 induction xs generalizing vs is with
 |nil=>cases rs;cases hxs;exact⟨λy hy=>(nomatch hy),rfl⟩
 |cons z zs ih=>
  cases rs with
  |cons r0 r=>
   cases z with
   |int z=>
    cases r0
    obtain⟨is',h1,rfl⟩:=Option.map_eq_some_iff.mp (show (intsOf zs).map (z :: ·)=some is from hxs)
    obtain⟨i1,i2⟩:=ih h1 r
    refine⟨λy hy=>?_,?_⟩
    ·cases hy with
     |head=>exact MeetsSeq.EqGives.int _ _ _ _
     |tail _ hy=>exact i1 y hy
    ·(refine rwI List.countP_cons ?_;refine rwI i2 ?_;refine rwI List.filter_cons ?_;refine rwI (show eqI i (.int z _)=(z==i) from rfl) ?_)
     cases z==i<;>rfl
   |_=>exact none_some hxs
theorem count_ok {l k:Nat}{xs:List AV}{vs:List Value}{is:List Int}{x:Sem Value}(hxs:intsOf xs=some is)
  (h:wpAny (model G.prog G.w) A x (λu s₁=>∃ H₁ i,s₁.heap.get? l=some { cls:=.type "list",data:=.seq vs.toArray k }∧VRels G (Fz H₁ X) s₁.heap xs vs∧St G X No H₀ s₀ H₁ s₁∧VRel G (Fz H₁ X) s₁.heap (.int i) u ∧
   R (.int ((is.filter (· == i)).length:Nat)) H₁) Er s) :
  wpAny (model G.prog G.w) A (callWith pos (.builtin "list.count") [.ref l] [(false,x)] []) (PV G X H₀ s₀ R) Er s:=by
 refine P.count_list (wpAny_mono h (λu s₁ pz4=>?_) λx_ x_ e=>e)
 obtain⟨H₁,i,g,rs,st,ru,q⟩:=pz4
 cases ru with
 |int _ t=>
  obtain⟨i1,i2⟩:=count_aux i t hxs rs
  refine⟨vs.toArray,k,eqI i,g,λy hy=>i1 y (by simpa using hy),_,_,q,st.toks _,?_⟩
  (refine rwI (show vs.toArray.toList=vs from rfl) ?_;refine rwI i2 ?_)
  exact .int _ _
theorem keys_put {names:List String}{es:List DictEntry}{k:Nat}{nm:String}{v:Value}(hsh:Int)(t:Tok)(nd:names.Nodup)(hk:KeysAre (names.take es.length) es)(hnm:names[k]? = some nm)(hle:k≤es.length) :
  KeysAre (names.take (putL (S' nm) hsh (.str (S' nm) t) v es).length) (putL (S' nm) hsh (.str (S' nm) t) v es) ∧
  (putL (S' nm) hsh (.str (S' nm) t) v es).map (·.val)=(if k < es.length then (es.map (·.val)).set k v else es.map (·.val)++[v]) ∧
  (!es.any (·.key.isStr (S' nm))&&es.any (·.refKey))=false∧(putL (S' nm) hsh (.str (S' nm) t) v es).length≤es.length+1:=by
 unfold KeysAre at hk
 induction names generalizing es k with
 |nil=>simp at hnm
 |cons n ns ih=>
  cases es with
  |nil=>
   have:k=0:=by simpa using hle
   subst this
   simp only[List.getElem?_cons_zero,Option.some.injEq] at hnm
   subst hnm
   simp[putL,KeysAre,strOfV,S']
  |cons e es=>
   simp only[List.length_cons,List.take_succ_cons,List.map_cons,List.cons.injEq] at hk
   obtain⟨k1,k2⟩:=hk
   obtain⟨n1,n2⟩:=List.nodup_cons.mp nd
   have ek:e.key.isStr (S' nm)=decide (n=nm):=by
    cases hk:e.key with
    |str x t=>
     rw[hk] at k1
     have k1:x=S' n:=Option.some.inj k1
     subst k1
     refine (?_:(S' n==S' nm)=decide (n=nm))
     by_cases q:n=nm
     ·subst q;simp
     ·refine rwI (decide_eq_false q) ?_;exact beq_eq_false_iff_ne.mpr λe=>q (S'_inj e)
    |_=>rw[hk] at k1;exact none_some k1
   have rk:e.refKey=false:=by
    unfold DictEntry.refKey
    cases hk:e.key<;>first|rfl|(rw[hk] at k1;exact none_some k1)
   cases k with
   |zero=>
    simp only[List.getElem?_cons_zero,Option.some.injEq] at hnm
    subst hnm
    have ek':e.key.isStr (S' n)=true:=by refine rwI ek ?_;simp
    refine⟨?_,?_,?_,?_⟩
    ·simp only[putL,ek',if_true,KeysAre,List.length_cons,List.take_succ_cons,List.map_cons,k1,k2]
    ·simp[putL,ek']
    ·simp[List.any_cons,ek']
    ·simp[putL,ek']
   |succ k=>
    simp only[List.getElem?_cons_succ] at hnm
    have hle:k≤es.length:=by simpa using hle
    obtain⟨i1,i2,i3,i4⟩:=ih (k:=k) n2 k2 hnm hle
    have ne:n≠nm:=λq=>n1 (q ▸ List.mem_of_getElem? hnm)
    have ek':e.key.isStr (S' nm)=false:=by refine rwI ek ?_;exact decide_eq_false ne
    refine⟨?_,?_,?_,?_⟩
    ·unfold KeysAre at i1 ⊢
     simp only[putL,ek',Bool.false_eq_true,if_false,List.length_cons,List.take_succ_cons,List.map_cons,k1,i1]
    ·simp only[putL,ek',Bool.false_eq_true,if_false,List.map_cons,i2,List.length_cons,Nat.add_lt_add_iff_right]
     split<;>rfl
    ·simp only[List.any_cons,ek',rk,Bool.false_or];exact i3
    ·simp only[putL,ek',Bool.false_eq_true,if_false,List.length_cons];lia
theorem flds_len7:∀ c,(flds c).length≤7:=@λy_1=>match @y_1 with
 |0=>by decide
 |1=>by decide
 |2=>by decide
 |x_1+3=>Nat.zero_le _
theorem keys_len {c:Nat}{es:List DictEntry}(hk:KeysAre ((flds c).take es.length) es):es.length≤7:=by
 have:=congrArg List.length hk
 rw[List.length_map,List.length_map,List.length_take] at this
 exact Nat.le_trans (Nat.le_trans (Nat.le_of_eq this) (Nat.min_le_right ..)) (flds_len7 c)
theorem inst_set {c k:Nat}{nm:String}{a d:Nat}{es:List DictEntry}{n:Nat}{v:Value}{Q:Unit→Shared→Prop}(gk:GOk G)(i:Inv G X H s.heap)
  (hnm:(flds c)[k]? = some nm) (ha:s.heap.get? a=some ⟨.ref (G.cls c),some d,.plain,#[]⟩) (hd:s.heap.get? d=some (dictOf es n)) (hk:KeysAre ((flds c).take es.length) es) (hle:k≤es.length)
  (h:∀ h' t es' n',Heap.SameBut d s.heap h'→h'.get? d=some (dictOf es' n')→KeysAre ((flds c).take es'.length) es'→es'.map (·.val)=(if k < es.length then (es.map (·.val)).set k v else es.map (·.val)++[v]) →
   Q () { s with heap:=h',toks:=t }):wpAny (model G.prog G.w) A (setAttr (.ref a) (S' nm) v) Q Er s:=by
 have hc:=flds_lt hnm
 have X':=gk.X.keeps i.keeps0
 have I:InstAt s.heap a ⟨.ref (G.cls c),some d,.plain,#[]⟩ (G.cls c) (some (dictOf es n)):=⟨ha,rfl,rfl,hd⟩
 refine set_plain X' I (gk.csa c hc) (osa_open (s:={ s with toks:=s.toks+1 }) X' I (gk.cpo c hc) (gk.ctk c k nm hnm) λb=>?_)
 obtain⟨cd,hcl,hd'⟩:=any_some (gk.chd c hc)
 obtain⟨q1,q2,q3,q4⟩:=keys_put (v:=v) (PyData.keyHash G.w.params (S' nm)) (s.toks+1) (flds_nodup c) hk hnm hle
 have kl:=(List.getElem?_eq_some_iff.mp hnm).1
 have el:es.length≤7:=keys_len hk
 refine wpAny_bind (wpAny_pure (wpAny_bind (wpAny_bind (wpAny_loadPart ha (wpAny_bind (Looks.here (s:={ s with toks:=s.toks+1 }) (looks_clsIn X' hcl) ?_))))))
 refine rwI hd' ?_
 refine wpAny_pure (a:=some d) (wpAny_bind (wpAny_pure (wpAny_bind ?_)))
 unfold nsSet
 refine wpAny_bind (wpAny_bind (wpAny_askSetting (wpAny_pure (wpAny_bind (wpAny_mkText (wpAny_bind (wpAny_loadPart hd ?_)))))))
 have c':aRefKeyMayBeTheName (S' nm) es.toArray=false:=by
  (refine rwI (aRefKeyMayBeTheName_at ..) ?_;refine rwI List.any_toArray ?_;refine rwI List.any_toArray ?_);exact q3
 refine (?_:wpAny _ _ (if aRefKeyMayBeTheName (S' nm) es.toArray=true then _ else _) _ _ _)
 refine rwI c' ?_
 refine wpAny_updatePart hd ?_
 have D':=Heap.get?_update_self (Obj.putName (S' nm) (PyData.keyHash G.w.params (S' nm)) (.str (S' nm) (s.toks+1)) v) hd (by refine rwI (putName_dict ..) ?_;rfl)
 rw[putName_dict] at D'
 refine wpAny_bind (wpAny_lookBehind D' (pastItsLine_dict (by (refine rwI List.size_toArray ?_;refine rwI sizeLine_eq ?_);lia)) ?_)
 exact wpAny_pure (h _ _ _ _ (Heap.SameBut.update ..) D' q1 q2)
theorem VRels.putF {F:Nat→Prop}{h:Heap}{fs:List AV}{vs:List Value}{x:AV}{v:Value}(rs:VRels G F h fs vs)(rx:VRel G F h x v)(k:Nat):VRels G F h (Mine.Internal.putF fs k x) (if k < vs.length then vs.set k v else vs++[v]):=by
 unfold Mine.Internal.putF
 refine rwI rs.length ?_
 split
 ·exact rs.set rx k
 ·exact rs.append (.cons rx .nil)
theorem setAttr_ok {v w:Value}{o x:AV}{c k:Nat}{nm:String}{P:AHeap→Prop}(gk:GOk G)(hnm:(flds c)[k]? = some nm)(st:St G X No H₀ s₀ H s)(ro:VRel G (Fz H X) s.heap o v)(rx:VRel G (Fz H X) s.heap x w)
  (h:opSetA H o c k x P):wpAny (model G.prog G.w) A (setAttr v (S' nm) w) (λx_ s'=>∃ H',P H'∧St G X No H₀ s₀ H' s') Er s:=by
 obtain⟨a,d,fs,rfl,ha,hd,hle,q⟩:=h
 cases ro
 have g1:=st.inv.objs _ _ ha
 obtain⟨es,n,g2,kk,rs⟩:=st.inv.objs _ _ hd
 have el:=rs.length
 simp only[List.length_map] at el
 refine inst_set gk st.inv hnm g1 g2 kk (by lia) λh' t es' n' hs e1 e2 e3=>⟨_,q,?_⟩
 refine st.change hd hs ⟨es',n',e1,e2,?_⟩
 refine rwI e3 ?_
 have:=rs.putF rx k
 simp only[List.length_map] at this
 exact this.chg hd hs
end
end Mine.Internal
namespace Mine.Internal
open PySem
noncomputable def fstep (mask i:Nat):Nat:=(i * 5+1) % (mask+1)
noncomputable def orb (mask:Nat):Nat→Nat→List Nat:=@λy_1=>@λy_2=>match @y_1,@y_2 with
 |0,x_1=>[]
 |n+1,i=>i::orb mask n (fstep mask i)
noncomputable def iterF (mask:Nat):Nat→Nat→Nat:=@λy_1=>@λy_2=>match @y_1,@y_2 with
 |0,i=>i
 |n+1,i=>iterF mask n (fstep mask i)
noncomputable def masks:List Nat:=[7,15,31,63,127,255]
theorem orb_get (mask:Nat):∀ n i t,t < n→(orb mask n i)[t]? = some (iterF mask t i):=@λy_1=>@λy_2=>@λy_3=>@λy_4=>match @y_1,@y_2,@y_3,@y_4 with
 |0,x_1,x_2,h=>absurd h (Nat.not_lt_zero _)
 |n+1,i,0,x_1=>rfl
 |n+1,i,t+1,h=>by
  refine (?_:(orb mask n (fstep mask i))[t]? = _)
  exact orb_get mask n _ t (Nat.lt_of_succ_lt_succ h)
theorem iterF_add (mask:Nat):∀ a b i,iterF mask (a+b) i=iterF mask b (iterF mask a i):=@λy_1=>@λy_2=>@λy_3=>match @y_1,@y_2,@y_3 with
 |0,b,i=>by refine rwI (Nat.zero_add ..) ?_;rfl
 |a+1,b,i=>by refine rwI (Nat.succ_add ..) ?_;exact iterF_add mask a b _
theorem orb_len (mask:Nat):∀ n i,(orb mask n i).length=n:=@λy_1=>@λy_2=>match @y_1,@y_2 with
 |0,x_1=>rfl
 |n+1,i=>congrArg Nat.succ (orb_len mask n _)
theorem orbs:∀ mask∈masks,iterF mask (mask+1) 0=0∧∀ j∈List.range (mask+1),j∈orb mask (mask+1) 0:=by decide +kernel
theorem reach {mask:Nat}(hm:mask∈masks){i j:Nat}(hi:i≤mask)(hj:j≤mask):∃ t,t≤mask∧iterF mask t i=j:=by
 obtain⟨h0,h⟩:=orbs mask hm
 have at':∀ j,j≤mask→∃ t,t≤mask∧iterF mask t 0=j:=λj hj=>by
  have:=h j (List.mem_range.mpr (Nat.lt_succ_of_le hj))
  obtain⟨t,ht⟩:=List.mem_iff_getElem?.mp this
  have lt:=(List.getElem?_eq_some_iff.mp ht).1
  rw[orb_len] at lt
  rw[orb_get mask _ _ t lt] at ht
  exact⟨t,Nat.le_of_lt_succ lt,Option.some.inj ht⟩
 obtain⟨a,la,rfl⟩:=at' i hi
 obtain⟨b,lb,rfl⟩:=at' j hj
 by_cases q:a≤b
 ·exact⟨b - a,Nat.le_trans (Nat.sub_le b a) lb,by (refine rwS (iterF_add ..) ?_;refine rwI (Nat.add_sub_cancel' q) ?_;rfl)⟩
 ·refine⟨mask+1 - a+b,Nat.le_of_lt_succ (Nat.lt_of_lt_of_eq (Nat.add_lt_add_left (Nat.lt_of_not_le q) _) (Nat.sub_add_cancel (Nat.le_succ_of_le la))),?_⟩
  (refine rwS (iterF_add ..) ?_;refine rwS (Nat.add_assoc ..) ?_;refine rwI (Nat.add_sub_cancel' (Nat.le_succ_of_le la)) ?_;refine rwI (iterF_add ..) ?_;refine rwI h0 ?_;rfl)
noncomputable def frO (i:Nat) (r:Option Nat) (o:Option Nat):Option Nat:=match o with
 |some k=>some (i+k)
 |none=>r
theorem free_succ {mask:Nat}{owner:Array (Option Nat)}{n i p:Nat}:SetTable.layClean.free mask owner (n+1) i p=frO i (SetTable.layClean.free mask owner n (SetTable.leap mask i p).1 (SetTable.leap mask i p).2) ((List.range (SetTable.runEnd mask i+1 - i)).find? λk=>(owner.getD (i+k) (some 0)).isNone):=rfl
theorem free_some {mask:Nat}{owner:Array (Option Nat)}(hs:owner.size=mask+1):∀ (fuel i p j:Nat),SetTable.layClean.free mask owner fuel i p=some j→∃ h:j < owner.size,owner[j]=none:=by
 intro fuel
 induction fuel with
 |zero=>intro i p j h;exact nomatch (show none=some j from h)
 |succ fuel ih=>
  intro i p j h
  replace h:=free_succ.symm.trans h
  cases hk:(List.range (SetTable.runEnd mask i+1 - i)).find? λk=>(owner.getD (i+k) (some 0)).isNone with
  |some k=>
   rw[hk] at h
   have e:=List.find?_some hk
   (replace h:=Option.some.inj h;subst h)
   by_cases q:i+k < owner.size
   ·refine⟨q,?_⟩
    simpa[Array.getD,q] using e
   ·simp[Array.getD,q] at e
  |none=>rw[hk] at h;exact ih _ _ _ h
theorem runEnd_le (mask i:Nat):i≤SetTable.runEnd mask i:=by unfold SetTable.runEnd;split<;>lia
theorem free_none {mask:Nat}{owner:Array (Option Nat)}(hs:owner.size=mask+1):∀ (fuel i p:Nat),p < 32→i≤mask→SetTable.layClean.free mask owner fuel i p=none →
  ∀ t,t < fuel→∃ k,owner[iterF mask t i]? = some (some k):=by
 intro fuel
 induction fuel with
 |zero=>intro i p _ _ _ t ht;exact absurd ht (Nat.not_lt_zero _)
 |succ fuel ih=>
  intro i p hp hi h t ht
  replace h:=free_succ.symm.trans h
  cases hk:(List.range (SetTable.runEnd mask i+1 - i)).find? λk=>(owner.getD (i+k) (some 0)).isNone with
  |some k=>rw[hk] at h;exact nomatch (show some (i+k)=none from h)
  |none=>
   rw[hk] at h
   have h0:=List.find?_eq_none.mp hk 0 (List.mem_range.mpr (Nat.sub_pos_of_lt (Nat.lt_succ_of_le (runEnd_le mask i))))
   have hi':i < owner.size:=hs ▸ Nat.lt_succ_of_le hi
   cases t with
   |zero=>
    cases q:owner[i] with
    |none=>simp[Array.getD,hi',q] at h0
    |some k=>exact⟨k,by refine (?_:owner[i]? = _);(refine rwI (Array.getElem?_eq_getElem hi') ?_;refine rwI q ?_;rfl)⟩
   |succ t=>
    replace h:SetTable.layClean.free mask owner fuel ((i * 5+1+p / 32) % (mask+1)) (p / 32)=none:=h
    rw[Nat.div_eq_of_lt hp] at h
    exact ih _ _ (by decide) (Nat.le_of_lt_succ (Nat.mod_lt (i * 5+1) (Nat.succ_pos mask))) h t (Nat.lt_of_succ_lt_succ ht)
noncomputable def taken (owner:Array (Option Nat)):List Nat:=owner.toList.filterMap id
theorem taken_aux (k:Nat):∀ (l:List (Option Nat))(j:Nat),l[j]? = some none→((l.set j (some k)).filterMap id).Perm (k::l.filterMap id):=@λy_1=>@λy_2=>@λy_3=>match @y_1,@y_2,@y_3 with
 |[],x_1,h=>by simp at h
 |x::l,0,h=>by simp at h;subst h;simp
 |x::l,j+1,h=>by
  have ih:=taken_aux k l j (by simpa using h)
  cases x with
  |none=>simpa using ih
  |some y=>simpa using (ih.cons y).trans (List.Perm.swap k y _)
theorem taken_set {owner:Array (Option Nat)}{j k:Nat}(hj:∃ h:j < owner.size,owner[j]=none):(taken (owner.setIfInBounds j (some k))).Perm (k::taken owner):=by
 obtain⟨h,e⟩:=hj
 unfold taken
 refine rwI Array.toList_setIfInBounds ?_
 exact taken_aux k _ _ (by (refine rwI (Array.getElem?_toList) ?_;refine rwI (Array.getElem?_eq_getElem h) ?_;refine rwI e ?_;rfl))
theorem full {mask:Nat}{owner:Array (Option Nat)}(hs:owner.size=mask+1)(h:∀ j,j≤mask→∃ k,owner[j]? = some (some k)):(taken owner).length=mask+1:=by
 unfold taken
 (refine rwS hs ?_;refine rwS Array.length_toList ?_)
 have:∀ l:List (Option Nat),(∀ x∈l,x≠none)→(l.filterMap id).length=l.length:=by
  intro l
  induction l with
  |nil=>intro _;rfl
  |cons x l ih=>
   intro h
   cases x with
   |none=>exact absurd rfl (h _ (.head _))
   |some k=>simpa using ih λy hy=>h y (.tail _ hy)
 refine this _ λx hx=>?_
 obtain⟨j,hj⟩:=List.mem_iff_getElem?.mp hx
 have lt:=(List.getElem?_eq_some_iff.mp hj).1
 obtain⟨k,hk⟩:=h j (by simp at lt;lia)
 rw[← Array.getElem?_toList,hj] at hk
 (replace hk:=Option.some.inj hk;subst hk);simp
theorem free_ok {mask:Nat}(hm:mask∈masks){owner:Array (Option Nat)}(hs:owner.size=mask+1){n:Nat}(hn:(taken owner).length=n)(hl:n≤mask)(h:Int)(h0:0≤h)(h1:h < 32) :
  ∃ j,SetTable.layClean.free mask owner (SetTable.turns mask) (SetTable.bits h % (mask+1)) (SetTable.bits h)=some j:=by
 cases e:SetTable.layClean.free mask owner (SetTable.turns mask) (SetTable.bits h % (mask+1)) (SetTable.bits h) with
 |some j=>exact⟨j,rfl⟩
 |none=>
  exfalso
  have hb:SetTable.bits h < 32:=by
   unfold SetTable.bits
   refine rwI (Int.emod_eq_of_lt h0 (by lia)) ?_;lia
  have hi:SetTable.bits h % (mask+1)≤mask:=Nat.le_of_lt_succ (Nat.mod_lt _ (Nat.succ_pos mask))
  have:=full hs λj hj=>by
   obtain⟨t,ht,rfl⟩:=reach hm hi hj
   exact free_none hs _ _ _ hb hi e t (by unfold SetTable.turns;lia)
  lia
theorem layClean_ok {mask:Nat}(hm:mask∈masks)(hs:Array Int)(hn:hs.size≤mask)(h:∀ x∈hs.toList,0≤x∧x < 32) :
  ∃ owner,SetTable.layClean mask hs=some owner∧owner.size=mask+1∧(taken owner).Perm (List.range hs.size):=by
 unfold SetTable.layClean
 refine rwS (Array.foldl_toList ..) ?_
 have key:∀ (l:List Int) (owner:Array (Option Nat)) (k:Nat),owner.size=mask+1→(taken owner).Perm (List.range k)→k+l.length≤mask→(∀ x∈l,0≤x∧x < 32) →
   ∃ owner',List.foldl (λacc h=>do
    let (owner,k) ← acc
    let j ← SetTable.layClean.free mask owner (SetTable.turns mask) (SetTable.bits h % (mask+1)) (SetTable.bits h)
    pure (owner.setIfInBounds j (some k),k+1)) (some (owner,k)) l=some (owner',k+l.length)∧owner'.size=mask+1∧(taken owner').Perm (List.range (k+l.length)):=by
  intro l
  induction l with
  |nil=>intro owner k h1 h2 _ _;exact⟨owner,rfl,h1,h2⟩
  |cons x l ih=>
   intro owner k h1 h2 h3 h4
   rw[List.length_cons] at h3
   obtain⟨j,hj⟩:=free_ok hm h1 (n:=k) (by (refine rwI h2.length_eq ?_;refine rwI List.length_range ?_;rfl)) (by lia) x (h4 x (.head _)).1 (h4 x (.head _)).2
   have hp:=free_some h1 _ _ _ _ hj
   obtain⟨o',e,q1,q2⟩:=ih (owner.setIfInBounds j (some k)) (k+1) (by simpa using h1) ((taken_set hp).trans ((h2.cons k).trans (by refine rwI List.range_succ ?_;exact (List.perm_append_singleton k _).symm))) (by lia) λy hy=>h4 y (.tail _ hy)
   refine⟨o',?_,q1,?_⟩
   ·refine rwI List.foldl_cons ?_
    have:(do
     let (owner,k) ← some (owner,k)
     let j ← SetTable.layClean.free mask owner (SetTable.turns mask) (SetTable.bits x % (mask+1)) (SetTable.bits x)
     pure (owner.setIfInBounds j (some k),k+1))=some (owner.setIfInBounds j (some k),k+1):=by
     refine (?_:(SetTable.layClean.free mask owner (SetTable.turns mask) (SetTable.bits x % (mask+1)) (SetTable.bits x) >>= λj=>pure (owner.setIfInBounds j (some k),k+1))=_)
     refine rwI hj ?_;rfl
    (refine rwI this ?_;refine rwI e ?_;refine rwI List.length_cons ?_);congr 2;lia
   ·(refine rwI List.length_cons ?_;refine rwI (show k+(l.length+1)=k+1+l.length by lia) ?_);exact q2
 obtain⟨o',e,q1,q2⟩:=key hs.toList (Array.replicate (mask+1) none) 0 (by simp) (by unfold taken;simp) (by simpa using hn) h
 refine⟨o',?_,q1,by simpa using q2⟩
 refine rwI e ?_;rfl
theorem live_snd {owner:Array (Option Nat)}{n:Nat}(hs:owner.size=n) :
  (((List.range n).filterMap λj=>(owner.getD j none).map (j,·)).map (·.2))=taken owner∧((List.range n).filterMap λj=>(owner.getD j none).map (j,·)).length=(taken owner).length:=by
 have e:(((List.range n).filterMap λj=>(owner.getD j none).map (j,·)).map (·.2))=taken owner:=by
  refine rwI List.map_filterMap ?_
  unfold taken
  subst hs
  have:owner.toList=(List.range owner.size).map λj=>owner.getD j none:=by
   apply List.ext_getElem
   ·simp
   ·intro i h1 h2
    simp at h1
    simp[Array.getD,h1]
  (refine rwI this ?_;refine rwI List.filterMap_map ?_)
  congr 1
  funext j
  simp only[Function.comp,id]
  cases owner.getD j none<;>rfl
 exact⟨e,by (refine rwS e ?_;refine rwI (List.length_map ..) ?_;rfl)⟩
theorem laid_ok {mask:Nat}(hm:mask∈masks)(finger moves:Nat)(led plain:Bool)(es:Array (Int×Value))(hn:es.size≤mask)(h:∀ e∈es.toList,0≤e.1∧e.1 < 32) :
  ∃ t order,SetTable.laid mask finger moves led plain (es.map (·.1))=some (t,order)∧(order.filterMap (es[·]?)).toList.Perm es.toList∧t.fits es.size=true∧t.mask=mask∧t.fill=es.size:=by
 obtain⟨owner,e,q1,q2⟩:=layClean_ok hm (es.map (·.1)) (by simpa using hn) (by
  intro x hx
  rw[Array.toList_map] at hx
  obtain⟨y,hy,rfl⟩:=List.mem_map.mp hx
  exact h y hy)
 rw[Array.size_map] at q2
 obtain⟨l1,l2⟩:=live_snd q1
 have e3:=q2.length_eq
 rw[List.length_range] at e3
 refine⟨_,_,by unfold SetTable.laid;refine rwI e ?_;rfl,?_,?_,rfl,?_⟩
 ·refine rwI Array.toList_filterMap ?_
  rw[show ∀ l:List Nat,l.toArray.toList=l from λx_=>rfl,l1]
  refine (q2.filterMap _).trans ?_
  have:=List.filterMap_getElem?_range_length es.toList
  simp only[Array.length_toList,Array.getElem?_toList] at this
  (refine rwI this ?_;rfl)
 ·unfold SetTable.fits SetTable.fill
  simp only[List.size_toArray,List.length_map,Bool.and_eq_true,beq_iff_eq,decide_eq_true_eq,Array.size_empty,Nat.add_zero]
  (refine rwI l2 ?_;refine rwI e3 ?_)
  exact⟨rfl,hn⟩
 ·unfold SetTable.fill
  simp only[List.size_toArray,List.length_map]
  (refine rwI l2 ?_;refine rwI e3 ?_);rfl
theorem sizes:∀ w∈List.range 200,SetTable.sizeAbove w - 1∈masks∧w≤SetTable.sizeAbove w - 1∧SetTable.sizeAbove w≤1000:=by decide +kernel
end Mine.Internal
namespace Mine.Internal
open PySem PySem.W PyProof.Rows
noncomputable abbrev IK (G:Glo):=intKind G.prog G.w
structure Sat (G:Glo)(h:Heap)(a:Nat)(m:Int→Bool)(es:Array (Int×Value))(ep:Nat)(t:SetTable)(o:Obj):Prop where
 at_:h.get? a=some o
 ex:o.ExactSet
 dat:o.data=.set es ep t
 el:ElemsOf (IK G) es.toList
 mem:∀ k,m k=true↔∃ e∈es.toList,(IK G).is k e.2=true
 few:es.size < scanBound
 fit:t.fits es.size=true
theorem countP_or (l:List Nat)(p:Nat→Bool)(i:Nat)(nd:l.Nodup)(hi:i∈l):l.countP (λj=>p j||j==i)=if p i then l.countP p else l.countP p+1:=by
 induction l with
 |nil=>exact nomatch hi
 |cons x l ih=>
  obtain⟨n1,n2⟩:=List.nodup_cons.mp nd
  (refine rwI List.countP_cons ?_;refine rwI List.countP_cons ?_)
  by_cases q:x=i
  ·subst q
   have:l.countP (λj=>p j||j==x)=l.countP p:=by
    refine List.countP_congr λy hy=>?_
    have:y≠x:=λe=>n1 (e ▸ hy)
    simp[this]
   refine rwI this ?_
   cases p x<;>(first|rfl|simp)
  ·have hi':i∈l:=by cases hi with|head=>exact absurd rfl q|tail _ h=>exact h
   refine rwI (ih n2 hi') ?_
   have:(x==i)=false:=by simpa using q
   (refine rwI this ?_;refine rwI (Bool.or_false ..) ?_)
   cases p i<;>cases p x<;>rfl<;>lia
theorem cntI_le (m:Int→Bool):cntI m≤32:=by
 unfold cntI
 have:=List.countP_le_length (p:=λi=>m (Int.ofNat i)) (l:=List.range 32)
 simpa using this
theorem cntI_add (m:Int→Bool){i:Int}(h0:0≤i)(h1:i < 32):cntI (λj=>m j||j==i)=if m i then cntI m else cntI m+1:=by
 obtain⟨n,rfl⟩:=Int.eq_ofNat_of_zero_le h0
 have:=countP_or (List.range 32) (λj=>m (Int.ofNat j)) n List.nodup_range (List.mem_range.mpr (by lia))
 unfold cntI
 rewrite [← show (λj=>m (Int.ofNat j)||j==n)=(λi:Nat=>m (Int.ofNat i)||Int.ofNat i==(n:Int)) from ?_]
 ·exact this
 ·funext j
  congr 1
  by_cases q:j=n
  ·subst q;simp
  ·have:(j==n)=false:=by simpa using q
   refine rwI this ?_;symm;refine rwI (propext beq_eq_false_iff_ne) ?_;exact λe=>q (Int.ofNat.inj e)
theorem cntI_false:cntI (λx_=>false)=0:=by decide
theorem hash_small {k:Int}(h0:0≤k)(h1:k < 32):hashInt k=k:=by
 obtain⟨n,rfl⟩:=Int.eq_ofNat_of_zero_le h0
 have:∀ n:Nat,n < 32→hashInt (n:Int)=n:=by decide
 exact this n (by lia)
section
variable {G:Glo}{A:Around}{Er:Value→Shared→Prop}{s:Shared}{h:Heap}{a b f:Nat}{m m':Int→Bool}{es:Array (Int×Value)}{ep:Nat}{t:SetTable}{o:Obj}
theorem Sat.setOf (p:Sat G h a m es ep t o):h.SetOf (IK G) a m es.size:=⟨o,es,ep,t,p.at_,p.ex,p.dat,p.el,p.mem,p.few,p.fit,rfl⟩
theorem SetRel.parts (r:SetRel G h a m):∃ es ep t o,Sat G h a m es ep t o∧es.size=cntI m∧TabOk t:=by
 obtain⟨⟨o,es,ep,t,h1,h2,h3,h4,h5,h6,h7,h8⟩,_,o',es',ep',t',g1,g2,g3⟩:=r
 rw[h1] at g1;cases g1
 rw[h3] at g2;cases g2
 exact⟨es,ep,t,o,⟨h1,h2,h3,h4,h5,h6,h7⟩,h8,g3⟩
theorem Sat.rel (p:Sat G h a m es ep t o)(hs:es.size=cntI m)(hb:∀ i,m i=true→0≤i∧i < 32)(ht:TabOk t):SetRel G h a m:=
 ⟨by refine rwS hs ?_;exact p.setOf,hb,o,es,ep,t,p.at_,p.dat,ht⟩
theorem tab_of_fits {n:Nat}(hf:t.fits n=true)(hn:0 < n):TabOk t:=λe=>by
 unfold SetTable.fits at hf
 simp only[Bool.and_eq_true,beq_iff_eq] at hf
 unfold SetTable.fill at e
 lia
theorem SetRel.ofSetOf (h1:h.SetOf (IK G) a m (cntI m))(hb:∀ i,m i=true→0≤i∧i < 32){i:Int}(hi:m i=true):SetRel G h a m:=by
 obtain⟨o,es,ep,t,g1,g2,g3,g4,g5,g6,g7,g8⟩:=id h1
 refine⟨h1,hb,o,es,ep,t,g1,g3,tab_of_fits g7 ?_⟩
 obtain⟨e,he,_⟩:=(g5 i).mp hi
 have:=List.length_pos_of_mem he
 simpa using this
theorem Sat.small (p:Sat G h a m es ep t o)(hb:∀ i,m i=true→0≤i∧i < 32):∀ e∈es.toList,∃ i u,e=(i,.int i u)∧0≤i∧i < 32∧m i=true:=λe he=>by
 obtain⟨⟨k,hk,hh⟩,_⟩:=p.el e he
 have hm:=(p.mem k).mpr ⟨e,he,hk⟩
 obtain⟨h0,h1⟩:=hb k hm
 obtain⟨x,v⟩:=e
 obtain⟨u,rfl⟩:=Value.isInt_shape hk
 refine⟨k,u,?_,h0,h1,hm⟩
 have:x=hashInt k:=hh
 (refine rwI this ?_;refine rwI (hash_small h0 h1) ?_;rfl)
theorem addHashed_ok {i:Int}{u:Tok}{Q:Bool→Shared→Prop}(r:SetRel G s.heap a m)(h0:0≤i)(h1:i < 32)
  (h:∀ b h',Heap.SameBut a s.heap h'→SetRel G h' a (λj=>m j||j==i)→Q b { s with heap:=h' }) :
  wpAny (model G.prog G.w) A (setAddHashed a (.int i u) (hashInt i)) Q Er s:=by
 have hl:=cntI_le m
 have hb:scanBound=4096:=rfl
 refine wpAny_setAddHashed_of (knd:=IK G) (k:=i) (intIs i u) rfl r.1 (by lia) λh' hs hS=>h _ h' hs ?_
 have e:(λk'=>m k'||decide (k'=i))=λj=>m j||j==i:=by funext j;congr 1
 rw[e] at hS
 refine SetRel.ofSetOf (i:=i) ?_ (λj hj=>?_) (by simp)
 ·refine rwI (cntI_add m h0 h1) ?_;exact hS
 ·rcases Bool.or_eq_true_iff.mp hj with hj|hj
  ·exact r.2.1 j hj
  ·refine rwI (eq_of_beq hj) ?_;exact⟨h0,h1⟩
theorem Sat.store {es':Array (Int×Value)}{t':SetTable}{Q:Unit→Shared→Prop}(p:Sat G s.heap a m es ep t o)(hel:ElemsOf (IK G) es'.toList)(hm:∀ k,m' k=true↔∃ e∈es'.toList,(IK G).is k e.2=true)
  (hb:es'.size < scanBound) (hf:t'.fits es'.size=true) (h:∀ h' ep' o',Heap.SameBut a s.heap h'→Sat G h' a m' es' ep' t' o'→Q () { s with heap:=h' }) :
  wpAny (model G.prog G.w) A (storeSet a es' t') Q Er s:=by
 obtain⟨g,hS⟩:=SetOf_store (knd:=IK G) p.at_ p.ex p.dat hel hm hb hf
 exact wpAny_storeSet_of p.at_ p.dat (h _ (ep+1) _ (Heap.SameBut.update ..) ⟨g,p.ex,rfl,hel,hm,hb,hf⟩) (fits_of_scanBound hb)
theorem setRelay_ok {wanted:Nat}{Q:Unit→Shared→Prop}(p:Sat G s.heap a m es ep t o)(hb:∀ i,m i=true→0≤i∧i < 32)(hw:wanted < 200)(hsz:es.size≤wanted)
  (h:∀ h' es' ep' t' o',Heap.SameBut a s.heap h'→Sat G h' a m es' ep' t' o'→es'.size=es.size→t'.mask=SetTable.sizeAbove wanted - 1→t'.fill=es.size→Q () { s with heap:=h' }) :
  wpAny (model G.prog G.w) A (setRelay a wanted) Q Er s:=by
 obtain⟨q1,q2,q3⟩:=sizes wanted (List.mem_range.mpr hw)
 obtain⟨t',order,e,hp,hf,hm,hfl⟩:=laid_ok q1 t.finger (t.movedTo (SetTable.sizeAbove wanted - 1)) t.led t.plain es (by lia) λx hx=>by
  obtain⟨i,u,rfl,h0,h1,_⟩:=p.small hb x hx;exact⟨h0,h1⟩
 have hz:(order.filterMap (es[·]?)).size=es.size:=by (refine rwS Array.length_toList ?_;refine rwI hp.length_eq ?_;refine rwI Array.length_toList ?_;rfl)
 unfold setRelay
 refine wpAny_bind (wpAny_setState_of p.at_ p.dat p.fit ?_)
 dsimp only
 rw[if_neg (by refine rwI sizeLine_eq ?_;lia)]
 unfold SetTable.relaid
 refine rwI e ?_
 refine wpAny_bind ?_
 refine (?_:wpAny _ _ (if ((order.filterMap (es[·]?)).size != es.size)=true then _ else _) _ _ _)
 (refine rwI hz ?_;refine rwI (bne_self_eq_false ..) ?_;refine rwI (if_neg Bool.false_ne_true) ?_)
 refine wpAny_pure ?_
 dsimp only
 exact p.store (p.el.perm hp) (λk=>(p.mem k).trans ⟨λ⟨e,he,q⟩=>⟨e,hp.mem_iff.mpr he,q⟩,λ⟨e,he,q⟩=>⟨e,hp.mem_iff.mp he,q⟩⟩) (by refine rwI hz ?_;exact p.few) (by refine rwI hz ?_;exact hf)
  λh' ep' o' hs p'=>h h' _ ep' t' o' hs p' hz hm hfl
set_option tactic.hygienic true in
theorem setRoomFor_ok {more:Nat}{Q:Unit→Shared→Prop}(p:Sat G s.heap a m es ep t o)(ht:TabOk t)(hb:∀ i,m i=true→0≤i∧i < 32)(h1:es.size≤32)(h2:more≤32)
  (h:∀ h' es' ep' t' o',Heap.SameBut a s.heap h'→Sat G h' a m es' ep' t' o'→es'.size=es.size→(t'.fill=0→t'.mask∈masks∧more≤t'.mask)→Q () { s with heap:=h' }) :
  wpAny (model G.prog G.w) A (setRoomFor a more) Q Er s:=by
 unfold setRoomFor
 refine wpAny_bind (wpAny_setState_of p.at_ p.dat p.fit ?_)
 dsimp only
 have hps:t.place.size=es.size:=by have:=p.fit;unfold SetTable.fits at this;simp only[Bool.and_eq_true,beq_iff_eq] at this;exact this.1
 unfold SetTable.roomFor
 split
 ·rename_i wanted hw
  split at hw
  ·cases hw
   obtain⟨q1,q2,q3⟩:=sizes ((t.place.size+more) * 2) (List.mem_range.mpr (by lia))
   exact setRelay_ok p hb (by lia) (by lia) λh' es' ep' t' o' hs p' hz hm hfl=>h h' es' ep' t' o' hs p' hz λx_=>by
    refine rwI hm ?_;exact⟨q1,by lia⟩
  ·exact none_some hw
 ·rename_i hw
  split at hw
  ·exact (hw _ rfl).elim
  ·rename_i hn
   refine wpAny_pure (h s.heap es ep t o (Heap.SameBut.refl ..) p rfl λhf=>?_)
   have:=ht hf
   refine rwI this ?_
   refine⟨by decide,?_⟩
   rw[hf,this] at hn
   lia
noncomputable def pkO {α:Type} (out:Array α) (g:α→Array α) (o:Option α):Array α:=match o with
 |some x=>g x
 |none=>out
set_option tactic.hygienic true in
theorem pick_succ {α:Type}{next:Nat→Nat}{n k:Nat}{left:List α}{out:Array α}:pickOrder.go next (n+1) k left out=pkO out (λx=>pickOrder.go next n (k+1) (left.eraseIdx (next k % left.length)) (out.push x)) left[next k % left.length]?:=rfl
set_option tactic.hygienic true in
theorem pick_perm {α:Type}(next:Nat→Nat)(xs:Array α):(pickOrder next xs).toList.Perm xs.toList:=by
 unfold pickOrder
 have key:∀ (n k:Nat) (left:List α) (out:Array α),left.length=n→(pickOrder.go next n k left out).toList.Perm (out.toList++left):=by
  intro n
  induction n with
  |zero=>intro k left out h;refine rwI (List.length_eq_zero_iff.mp h) ?_;exact (List.append_nil _).symm ▸ .refl _
  |succ n ih=>
   intro k left out h
   refine rwI pick_succ ?_
   have hlt:next k % left.length < left.length:=Nat.mod_lt _ (h ▸ Nat.succ_pos n)
   refine rwI (List.getElem?_eq_getElem hlt) ?_
   refine (ih (k+1) _ _ (by (refine rwI (List.length_eraseIdx_of_lt hlt) ?_;refine rwI h ?_);rfl)).trans ?_
   (refine rwI Array.toList_push ?_;refine rwI (List.append_assoc ..) ?_)
   refine List.Perm.append_left _ ?_
   have e:left=left.take (next k % left.length)++left[next k % left.length]::left.drop (next k % left.length+1):=by
    (refine rwI (List.getElem_cons_drop ..) ?_;refine rwI (List.take_append_drop ..) ?_;rfl)
   refine rwI (List.eraseIdx_eq_take_drop_succ ..) ?_
   conv=>rhs;rw[e]
   refine rwI List.singleton_append ?_
   exact List.perm_middle.symm
 have:=key xs.size 0 xs.toList #[] (by simp)
 simpa using this
theorem setsByText_ok {Q:Bool→Shared→Prop}(h:Q (G.w.params.followText "set-order") s):wpAny (model G.prog G.w) A setsByText Q Er s:=by
 unfold setsByText
 exact wpAny_bind (wpAny_askSetting (wpAny_pure h))
theorem setWalk_ok {Q:Array (Int×Value)→Shared→Prop}(p:Sat G s.heap b m es ep t o)(hd:G.w.params.followText "set-order" = false→(!t.plain&&decide (es.size > 1))=false∧(!t.led&&decide (es.size > 1))=false)
  (h:∀ l,List.Perm l.toList es.toList→Q l s):wpAny (model G.prog G.w) A (setWalk b) Q Er s:=by
 unfold setWalk
 refine wpAny_bind (wpAny_setState_of p.at_ p.dat p.fit ?_)
 dsimp only
 refine wpAny_bind (setsByText_ok ?_)
 cases q:G.w.params.followText "set-order" with
 |true=>
  refine rwI (if_pos rfl) ?_
  exact wpAny_bind (wpAny_askSetting (wpAny_pure (h _ (pick_perm _ _))))
 |false=>
  obtain⟨q1,q2⟩:=hd q
  refine rwI (if_neg Bool.false_ne_true) ?_
  refine (?_:wpAny _ _ (if (!t.plain&&decide (es.size > 1))=true then _ else _) _ _ _)
  (refine rwI q1 ?_;refine rwI (if_neg Bool.false_ne_true) ?_)
  refine wpAny_bind ?_
  refine (?_:wpAny _ _ (if (!t.led&&decide (es.size > 1))=true then _ else _) _ _ _)
  (refine rwI q2 ?_;refine rwI (if_neg Bool.false_ne_true) ?_)
  exact wpAny_pure (wpAny_pure (h _ .rfl))
theorem setsQuiet_ok {sets:List Addr}{Q:Bool→Shared→Prop}(hs:∀ c∈sets,∃ m es ep t o,Sat G s.heap c m es ep t o)(h:Q true s):wpAny (model G.prog G.w) A (setsQuiet sets) Q Er s:=by
 unfold setsQuiet
 refine wpAny_bind (wpAny_forIn_list _ (λrest r s'=>r.1=none∧s'=s∧∀ c∈rest,c∈sets) (λr s'=>r.1=none∧s'=s) (λc rest r s' ⟨h1,h2,h3⟩=>?_) (λr s' ⟨h1,h2,_⟩=>⟨h1,h2⟩) _ _ ⟨rfl,rfl,λc hc=>hc⟩ |> λx=>wpAny_mono x (λr s' ⟨h1,h2⟩=>?_) λx_ x_ e=>e)
 ·subst h2
  obtain⟨m,es,ep,t,o,p⟩:=hs c (h3 c (.head _))
  refine wpAny_bind (wpAny_setEntries_of p.at_ p.dat p.fit ?_)
  refine wpAny_bind (wpAny_mono (wpAny_forIn_array' _ (λrest r s₂=>r.1=none∧s₂=s'∧∀ e∈rest,e∈es.toList) (λr s₂=>r.1=none∧s₂=s') ?_ ?_ _ _ ⟨rfl,rfl,λe he=>he⟩) ?_ λx_ x_ e=>e)
  ·rintro⟨x,v⟩ rest r s₂ ⟨g1,g2,g3⟩
   obtain⟨⟨k,hk,_⟩,_⟩:=p.el _ (g3 _ (.head _))
   obtain⟨u,rfl⟩:=Value.isInt_shape hk
   exact wpAny_pure ⟨rfl,g2,λe he=>g3 e (.tail _ he)⟩
  ·rintro r s₂ ⟨g1,g2,_⟩;exact⟨g1,g2⟩
  ·rintro⟨r1,r2⟩ s₂ ⟨g1,g2⟩
   have g1:r1=none:=g1
   subst g1
   exact wpAny_pure ⟨rfl,g2,λc hc=>h3 c (.tail _ hc)⟩
 ·obtain⟨r1,r2⟩:=r
  have h1:r1=none:=h1
  subst h1 h2
  exact wpAny_pure h
set_option tactic.hygienic true in
theorem setWalkUnseen_ok {others:List Addr}{Q:Array (Int×Value)→Shared→Prop}(p:Sat G s.heap b m es ep t o)(rf:SetRel G s.heap f m')(hbf:b≠f)(ho:∀ c∈others,∃ m es ep t o,Sat G s.heap c m es ep t o)
  (h:∀ l h',List.Perm l.toList es.toList→Heap.SameBut f s.heap h'→SetRel G h' f m'→Q l { s with heap:=h' }):wpAny (model G.prog G.w) A (setWalkUnseen b others (some f)) Q Er s:=by
 have h0:∀ l,List.Perm l.toList es.toList→Q l s:=λl hl=>h l s.heap hl (Heap.SameBut.refl ..) rf
 unfold setWalkUnseen
 refine wpAny_bind (wpAny_setState_of p.at_ p.dat p.fit ?_)
 dsimp only
 refine wpAny_bind (setsByText_ok ?_)
 split
 ·rename_i hc
  refine setWalk_ok p (λq=>?_) λl hl=>h0 l hl
  rw[q,Bool.false_or,Bool.or_eq_true,Bool.and_eq_true,decide_eq_true_eq] at hc
  rcases hc with⟨c1,c2⟩|c
  ·(refine rwI c1 ?_;refine rwI c2 ?_);exact⟨rfl,rfl⟩
  ·have:decide (es.size > 1)=false:=decide_eq_false (by lia)
   (refine rwI this ?_;refine rwI (Bool.and_false ..) ?_;refine rwI (Bool.and_false ..) ?_);exact⟨rfl,rfl⟩
 ·refine wpAny_bind (setsQuiet_ok (λc hc=>?_) ?_)
  ·rcases List.mem_cons.mp hc with rfl|hc
   ·exact⟨_,_,_,_,_,p⟩
   ·exact ho c hc
  ·(refine rwI Bool.not_true ?_;refine rwI (if_neg Bool.false_ne_true) ?_)
   refine wpAny_bind (wpAny_rule ?_)
   obtain⟨ef,epf,tf,of,pf,hsz,htab⟩:=rf.parts
   refine wpAny_bind (wpAny_setState_of pf.at_ pf.dat pf.fit ?_)
   dsimp only
   split
   ·refine wpAny_bind (pf.store (t':={ tf with led:=tf.led&&t.led,plain:=tf.plain&&t.plain }) pf.el pf.mem pf.few pf.fit λh' ep' o' hs p'=>?_)
    exact wpAny_pure (h _ h' .rfl hs (p'.rel hsz rf.2.1 htab))
   ·exact wpAny_pure (h0 _ .rfl)
end
section
variable {G:Glo}{A:Around}{Er:Value→Shared→Prop}{s:Shared}{h:Heap}{a b f:Nat}{m m':Int→Bool}{es:Array (Int×Value)}{ep:Nat}{t:SetTable}{o:Obj}
theorem Sat.keeps {h':Heap}(p:Sat G h b m es ep t o)(hs:h'.get? b=h.get? b):Sat G h' b m es ep t o:=⟨hs.trans p.at_,p.ex,p.dat,p.el,p.mem,p.few,p.fit⟩
theorem Sat.same {es' ep' t' o'}(p:Sat G h a m es ep t o)(q:Sat G h a m' es' ep' t' o'):m=m':=by
 have:=p.at_.symm.trans q.at_
 (replace this:=Option.some.inj this;subst this)
 have:=p.dat.symm.trans q.dat
 cases this
 funext k
 cases e:m k<;>cases e':m' k<;>try rfl
 ·rw[(p.mem k).mpr ((q.mem k).mp e')] at e;exact nomatch e
 ·rw[(q.mem k).mpr ((p.mem k).mp e)] at e';exact nomatch e'
theorem Sat.sz (p:Sat G h a m es ep t o):t.place.size=es.size:=eq_of_beq (Bool.and_eq_true_iff.mp (show (t.place.size==es.size&&_)=true from p.fit)).1
theorem Sat.empty (p:Sat G h a m es ep t o)(hz:es.size=0)(k:Int):m k=false:=
 Bool.eq_false_iff.mpr λq=>(p.mem k).mp q |>.elim λe he=>by rw[Array.size_eq_zero_iff.mp hz] at he;exact nomatch he.1
theorem Sat.storeP {t':SetTable}{hb:Heap}{eb eb':Array (Int×Value)}{epb:Nat}{tb:SetTable}{ob:Obj}{Q:Unit→Shared→Prop}(p:Sat G s.heap a m es ep t o)(pb:Sat G hb b m' eb epb tb ob)(hp:List.Perm eb'.toList eb.toList)
  (hz:eb'.size=eb.size) (hf:t'.fits eb.size=true) (h:∀ h' ep' o',Heap.SameBut a s.heap h'→Sat G h' a m' eb' ep' t' o'→Q () { s with heap:=h' }) :
  wpAny (model G.prog G.w) A (storeSet a eb' t') Q Er s:=
 p.store (pb.el.perm hp) (λk=>(pb.mem k).trans ⟨λ⟨e,he,q⟩=>⟨e,hp.mem_iff.mpr he,q⟩,λ⟨e,he,q⟩=>⟨e,hp.mem_iff.mp he,q⟩⟩) (hz ▸ pb.few) (hz ▸ hf) h
structure MI (G:Glo)(H:Heap)(a:Nat)(m m':Int→Bool)(rest:List (Int×Value))(h':Heap)(m₁:Int→Bool):Prop where
 same:Heap.SameBut a H h'
 rel:SetRel G h' a m₁
 eqv:∀ i,(m i||m' i)=true↔(m₁ i=true∨∃ u,(i,Value.int i u)∈rest)
 sml:∀ e∈rest,∃ i u,e=(i,Value.int i u)∧0≤i∧i < 32
theorem MI.nil {H h' m₁}(k:MI G H a m m' [] h' m₁):SetRel G h' a (λi=>m i||m' i):=by
 have:(λi=>m i||m' i)=m₁:=funext λi=>Bool.eq_iff_iff.mpr ((k.eqv i).trans ⟨λq=>q.elim id λq=>q.elim λx_ q=>(List.not_mem_nil q).elim,Or.inl⟩)
 refine rwI this ?_;exact k.rel
theorem MI.step {H h' m₁}{e:Int×Value} {rest}{R:Prop}(k:MI G H a m m' (e::rest) h' m₁)
  (f:∀ x w,e=(x,.int x w)→0≤x→x < 32→SetRel G h' a m₁→(∀ h'',Heap.SameBut a h' h''→SetRel G h'' a (λj=>m₁ j||j==x)→MI G H a m m' rest h'' (λj=>m₁ j||j==x))→R):R:=by
 obtain⟨x,w,q,h0,h1⟩:=k.sml e (.head _)
 refine f x w q h0 h1 k.rel λh'' hs r=>⟨k.same.trans hs,r,λi=>(k.eqv i).trans ?_,λe he=>k.sml e (.tail _ he)⟩
 clear f hs r
 subst q
 (refine rwI (Bool.or_eq_true ..) ?_;refine rwI (propext beq_iff_eq) ?_;refine rwI (propext or_assoc) ?_)
 refine or_congr .rfl ⟨λ⟨u,q⟩=>?_,λq=>q.elim (λq=>⟨w,q ▸ .head _⟩) λ⟨u,q⟩=>⟨u,.tail _ q⟩⟩
 exact (List.mem_cons.mp q).elim (λq=>.inl (congrArg Prod.fst q)) λq=>.inr ⟨u,q⟩
theorem MI.start {H h₀ h'}{l:List (Int×Value)}(pb:Sat G h₀ b m' es ep t o)(hb:∀ i,m' i=true→0≤i∧i < 32)(hl:List.Perm l es.toList)(hs:Heap.SameBut a H h')(r:SetRel G h' a m):MI G H a m m' l h' m:=by
 refine⟨hs,r,λi=>?_,λe he=>(pb.small hb e (hl.mem_iff.mp he)).imp λx_ q=>q.imp λx_ q=>⟨q.1,q.2.1,q.2.2.1⟩⟩
 refine rwI (Bool.or_eq_true ..) ?_
 refine or_congr .rfl ⟨λq=>?_,λ⟨u,q⟩=>?_⟩
 ·obtain⟨e,he,hk⟩:=(pb.mem i).mp q
  obtain⟨i',w,rfl,_,_,_⟩:=pb.small hb e he
  exact⟨w,hl.mem_iff.mpr (eq_of_beq (show (i'==i)=true from hk) ▸ he)⟩
 ·obtain⟨i',w,e,_,_,hm'⟩:=pb.small hb _ (hl.mem_iff.mp q)
  cases e;exact hm'
theorem setMerge_ok {each:Sem Unit}{Q:Unit→Shared→Prop}(ra:SetRel G s.heap a m)(rb:SetRel G s.heap b m')
  (he:∀ (s₁:Shared) (Q':Unit→Shared→Prop),s₁.heap.get? b=s.heap.get? b→Q' () s₁→wpAny (model G.prog G.w) A each Q' Er s₁)
  (h:∀ h',Heap.SameBut a s.heap h'→SetRel G h' a (λi=>m i||m' i)→Q () { s with heap:=h' }) :
  wpAny (model G.prog G.w) A (setMerge a b each) Q Er s:=by
 obtain⟨ea,epa,ta,oa,pa,za,tba⟩:=ra.parts
 obtain⟨eb,epb,tb,ob,pb,zb,tbb⟩:=rb.parts
 unfold setMerge
 by_cases hab:a=b
 ·refine rwI (if_pos (beq_iff_eq.mpr hab)) ?_
  have e:(λi=>m i||m' i)=m:=funext λi=>by have:=congrFun (pa.same (m':=m') (hab ▸ pb)) i;(refine rwS this ?_;refine rwI (Bool.or_self ..) ?_;rfl)
  exact wpAny_pure (h s.heap (Heap.SameBut.refl ..) (by refine rwI e ?_;exact ra))
 refine rwI (if_neg λe=>hab (beq_iff_eq.mp e)) ?_
 refine wpAny_bind (wpAny_setState_of pb.at_ pb.dat pb.fit ?_)
 dsimp only
 by_cases hemp:eb.size=0
 ·refine rwI (if_pos (Array.isEmpty_iff_size_eq_zero.mpr hemp)) ?_
  have e:(λi=>m i||m' i)=m:=funext λi=>by (refine rwI (pb.empty hemp i) ?_;refine rwI (Bool.or_false ..) ?_;rfl)
  exact wpAny_pure (h s.heap (Heap.SameBut.refl ..) (by refine rwI e ?_;exact ra))
 refine rwI (if_neg λe=>hemp (Array.isEmpty_iff_size_eq_zero.mp e)) ?_
 have hpos:0 < eb.size:=Nat.pos_of_ne_zero hemp
 refine wpAny_bind (setRoomFor_ok pa tba ra.2.1 (za ▸ cntI_le m) (zb ▸ cntI_le m') λh1 es1 ep1 t1 o1 hs1 p1 z1 f1=>?_)
 replace za:=z1.trans za
 clear pa tba z1
 refine wpAny_bind (wpAny_setState_of (s:={ s with heap:=h1 }) p1.at_ p1.dat p1.fit ?_)
 dsimp only
 have pbs:=pb
 replace pb:=pb.keeps (hs1.2 b λe=>hab e.symm)
 unfold SetTable.road
 by_cases hf:t1.fill=0
 ·have hor:(λi=>m i||m' i)=m':=funext λi=>by
   (refine rwI (p1.empty (p1.sz ▸ (Nat.add_eq_zero_iff.mp hf).1) i) ?_;refine rwI (Bool.false_or ..) ?_;rfl)
  rw[hor] at h
  (refine rwI hf ?_;refine rwI (bne_self_eq_false ..) ?_;refine rwI (if_neg Bool.false_ne_true) ?_)
  clear ra he za
  by_cases hr:(t1.mask==tb.mask&&tb.dummies.isEmpty)=true
  ·refine rwI (if_pos hr) ?_
   dsimp only
   exact p1.storeP pb .rfl rfl pb.fit λh' ep' o' hs' p'=>h h' (hs1.trans hs') (p'.rel zb rb.2.1 (tab_of_fits p'.fit hpos))
  ·refine rwI (if_neg hr) ?_
   dsimp only
   obtain⟨t',order,e,hp,hfit,hm,hfl⟩:=laid_ok (f1 hf).1 t1.finger t1.moves (t1.led&&tb.led) (t1.plain&&tb.plain) eb (f1 hf).2 λx hx=>by
    obtain⟨i,u,rfl,h0,h1,_⟩:=pb.small rb.2.1 x hx;exact⟨h0,h1⟩
   have hz:(order.filterMap (eb[·]?)).size=eb.size:=by (refine rwS Array.length_toList ?_;refine rwI hp.length_eq ?_;refine rwI Array.length_toList ?_;rfl)
   refine rwI e ?_
   refine wpAny_bind ?_
   refine (?_:wpAny _ _ (if ((order.filterMap (eb[·]?)).size != eb.size)=true then _ else _) _ _ _)
   (refine rwI hz ?_;refine rwI (bne_self_eq_false ..) ?_;refine rwI (if_neg Bool.false_ne_true) ?_)
   refine wpAny_pure ?_
   dsimp only
   exact p1.storeP pb hp hz hfit λh' ep' o' hs' p'=>h h' (hs1.trans hs') (p'.rel (hz.trans zb) rb.2.1 (tab_of_fits p'.fit (hz ▸ hpos)))
 refine rwI (if_pos (bne_iff_ne.mpr hf)) ?_
 have r1:SetRel G h1 a m:=p1.rel za ra.2.1 λe=>absurd e hf
 refine wpAny_bind (setWalkUnseen_ok (s:={ s with heap:=h1 }) (b:=b) (f:=a) pb r1 (λe=>hab e.symm) (λc hc=>?_) λl h2 hl hs2 r2=>?_)
 ·refine rwI (List.mem_singleton.mp hc) ?_;exact⟨_,_,_,_,_,p1⟩
 have st:=MI.start pb rb.2.1 hl (hs1.trans hs2) r2
 clear hs2 r2 hl r1 ra za f1
 refine wpAny_bind (wpAny_forIn_array' _ (λrest x_ s'=>∃ h' m₁,s'={ s with heap:=h' }∧MI G s.heap a m m' rest h' m₁) _ ?_ ?_ _ _ ⟨h2,m,rfl,st⟩)
 ·intro x rest u s' k
  clear st h
  obtain⟨h',m₁,rfl,k⟩:=k
  refine k.step λi w e g0 g1 r' nx=>?_
  subst e
  dsimp only
  refine wpAny_bind (wpAny_holding ?_)
  have:=addHashed_ok (A:=A) (Er:=Er) (s:={ s with heap:=h' }) (u:=w) (Q:=λx_ s'=>∃ h'',s'={ s with heap:=h'' }∧MI G s.heap a m m' rest h'' λj=>m₁ j||j==i) r' g0 g1 λx_ h'' hs'' r''=>⟨h'',rfl,nx h'' hs'' r''⟩
  rw[hash_small g0 g1] at this
  refine wpAny_mono this (λx_ s₂ z=>?_) λx_ x_ e=>e
  clear this k nx r'
  obtain⟨h'',rfl,k⟩:=z
  have gb:h''.get? b=s.heap.get? b:=k.same.2 b λe=>hab e.symm
  refine wpAny_bind (he { s with heap:=h'' } _ gb ?_)
  replace pbs:=pbs.keeps gb
  refine wpAny_bind (wpAny_setState_of (s:={ s with heap:=h'' }) pbs.at_ pbs.dat pbs.fit ?_)
  dsimp only
  (refine rwI (bne_self_eq_false ..) ?_;refine rwI (if_neg Bool.false_ne_true) ?_)
  exact wpAny_pure ⟨h'',_,rfl,k⟩
 ·intro u s' k
  obtain⟨h',m₁,rfl,k⟩:=k
  exact wpAny_pure (h h' k.same k.nil)
end
theorem ior_eq (a b:Addr):Builtin.«set.__ior__» ⟨[.ref a,.ref b],[]⟩=(Builtin.Frozenset.isAnySet (.ref b) >>= λr=>
  if (!r)=true then (rule "set.__ior__.declined" >>= λx_=>ret .notImplemented) else (Builtin.Frozenset.updateFrom "set.__ior__" a (.ref b) >>= λx_=>ret (.ref a))):=by kernel_rfl
theorem le_eq (a b:Addr):Builtin.«frozenset.__le__» ⟨[.ref a,.ref b],[]⟩=(Builtin.Frozenset.isAnySet (.ref b) >>= λr=>
  if (!r)=true then (rule "frozenset.__le__.declined" >>= λx_=>ret .notImplemented) else (Builtin.Frozenset.sizeOf a >>= λx_=>Builtin.Frozenset.sizeOf b >>= λx_=>Builtin.Frozenset.subsetOf "frozenset.__le__" a b >>= λr=>ret (.bool r))):=by kernel_rfl
theorem set_ne_eq (a b:Addr):∃ Y:Sem Bool,Builtin.«frozenset.__ne__» ⟨[.ref a,.ref b],[]⟩=(Builtin.Frozenset.isAnySet (.ref b) >>= λr=>
  if (!r)=true then (rule "frozenset.__ne__.declined" >>= λx_=>ret .notImplemented) else (Builtin.Frozenset.sizeOf a >>= λn=>Builtin.Frozenset.sizeOf b >>= λm=>
   (if (n != m)=true then pure false else ((isInstance (.ref a) (.type "frozenset") <&&> isInstance (.ref b) (.type "frozenset")) >>= λc=>if c=true then Y else Builtin.Frozenset.subsetOf "frozenset.__ne__" a b)) >>= λr=>ret (.bool !r))):=⟨_,rfl⟩
theorem entry_set_le:entryFor table "set.__le__" = some Builtin.«frozenset.__le__»:=entryFor_alias (id':="frozenset.__le__") (by kernel_rfl) rfl (by decide +kernel) (by kernel_rfl)
theorem entry_set_ne:entryFor table "set.__ne__" = some Builtin.«frozenset.__ne__»:=entryFor_alias (id':="frozenset.__ne__") (by kernel_rfl) rfl (by decide +kernel) (by kernel_rfl)
theorem sub_set_frozen:isSubtype (.type "set") (.type "frozenset")=pure false:=by refine rwI (isSubtype_type ..) ?_;kernel_rfl
theorem countP_sub (p q:Nat→Bool):∀ l:List Nat,(∀ i∈l,p i=true→q i=true)→l.countP p≤l.countP q∧(l.countP p=l.countP q→∀ i∈l,p i=q i):=@λy_1=>@λy_2=>match @y_1,@y_2 with
 |[],x_1=>⟨Nat.le_refl _,λx_ i h=>nomatch h⟩
 |x::l,h=>by
  obtain⟨h1,h2⟩:=countP_sub p q l λi hi=>h i (.tail _ hi)
  have hx:=h x (.head _)
  (refine rwI List.countP_cons ?_;refine rwI List.countP_cons ?_)
  cases px:p x<;>cases qx:q x
  ·refine⟨by simpa using h1,λe i hi=>?_⟩
   cases hi with
   |head=>(refine rwI px ?_;refine rwI qx ?_;rfl)
   |tail _ hi=>exact h2 (by simpa using e) i hi
  ·refine⟨by dsimp;lia,λe=>?_⟩
   simp at e;lia
  ·rw[hx px] at qx;exact absurd qx (by decide)
  ·refine⟨by simp;lia,λe i hi=>?_⟩
   cases hi with
   |head=>(refine rwI px ?_;refine rwI qx ?_;rfl)
   |tail _ hi=>exact h2 (by simpa using e) i hi
theorem cntI_sub {m m':Int→Bool}(h:∀ i,m i=true→m' i=true):cntI m≤cntI m':=(countP_sub _ _ _ λi x_=>h _).1
theorem cntI_eq {m m':Int→Bool}(h:∀ i,m i=true→m' i=true)(hb:∀ i,m i=true→0≤i∧i < 32)(hb':∀ i,m' i=true→0≤i∧i < 32)(e:cntI m=cntI m'):m=m':=by
 funext i
 by_cases hi:0≤i∧i < 32
 ·obtain⟨n,rfl⟩:=Int.eq_ofNat_of_zero_le hi.1
  exact (countP_sub (λi=>m (Int.ofNat i)) (λi=>m' (Int.ofNat i)) (List.range 32) λi x_=>h _).2 e n (List.mem_range.mpr (by lia))
 ·cases q:m i with
  |true=>exact absurd (hb i q) hi
  |false=>cases q':m' i with
   |true=>exact absurd (hb' i q') hi
   |false=>rfl
theorem perm_of_subset:∀ (F L:List Int),F.Nodup→(∀ x∈F,x∈L)→L.length≤F.length→L.Perm F:=@λy_1=>@λy_2=>@λy_3=>@λy_4=>@λy_5=>match @y_1,@y_2,@y_3,@y_4,@y_5 with
 |[],L,x_1,x_2,h=>by (refine rwI (List.length_eq_zero_iff.mp (Nat.le_zero.mp h)) ?_;rfl)
 |a::F,L,nd,hs,h=>by
  obtain⟨n1,n2⟩:=List.nodup_cons.mp nd
  have ha:=hs a (.head _)
  have:=perm_of_subset F (L.erase a) n2 (λx hx=>(List.mem_erase_of_ne λe=>n1 (by refine rwS e ?_;exact hx)).mpr (hs x (.tail _ hx))) (by refine rwI (List.length_erase_of_mem ha) ?_;exact Nat.sub_le_of_le_add h)
  exact (List.perm_cons_erase ha).trans (this.cons a)
section
variable {G:Glo}{A:Around}{Er:Value→Shared→Prop}{s:Shared}{h:Heap}{a b f:Nat}{m m':Int→Bool}{es:Array (Int×Value)}{ep:Nat}{t:SetTable}{o:Obj}
theorem Sat.nodup (p:Sat G h a m es ep t o)(hb:∀ i,m i=true→0≤i∧i < 32)(hz:es.size=cntI m):(es.toList.map (·.1)).Nodup:=by
 have key:=perm_of_subset (((List.range 32).filter λi=>m (Int.ofNat i)).map Int.ofNat) (es.toList.map (·.1)) ?_ ?_ ?_
 ·refine key.nodup_iff.mpr ?_
  exact List.Pairwise.map Int.ofNat (λx y h e=>h (Int.ofNat.inj e)) (List.nodup_range.filter _)
 ·exact List.Pairwise.map Int.ofNat (λx y h e=>h (Int.ofNat.inj e)) (List.nodup_range.filter _)
 ·intro x hx
  obtain⟨i,hi,rfl⟩:=List.mem_map.mp hx
  obtain⟨e,he,hk⟩:=(p.mem (Int.ofNat i)).mp (List.mem_filter.mp hi).2
  obtain⟨j,u,rfl,_,_,_⟩:=p.small hb e he
  have:j=Int.ofNat i:=eq_of_beq (show (j==Int.ofNat i)=true from hk)
  subst this
  exact List.mem_map.mpr ⟨_,he,rfl⟩
 ·(refine rwI (List.length_map ..) ?_;refine rwI (List.length_map ..) ?_;refine rwI Array.length_toList ?_;refine rwI hz ?_)
  unfold cntI
  refine rwI List.countP_eq_length_filter ?_
  exact Nat.le_refl _
theorem setFind_ok {i:Int}{u:Tok}{Q:Option Nat→Shared→Prop}(p:Sat G s.heap a m es ep t o)
  (h:Q (es.toList.findIdx? λe=>(IK G).is i e.2) s):wpAny (model G.prog G.w) A (setFind a (.int i u) (hashInt i)) Q Er s:=by
 unfold setFind setFindIn
 refine wpAny_bind (wpAny_setState_of p.at_ p.dat p.fit ?_)
 dsimp only
 refine rwI (byScan_of (knd:=IK G) rfl p.few p.el) ?_
 simp only[↓reduceIte]
 refine wpAny_bind (wpAny_rule (wpAny_bind (wpAny_setScan_of (knd:=IK G) (k:=i) (intIs i u) p.at_ p.dat p.fit p.el ?_)))
 cases hr:List.findIdx? (λe=>(IK G).is i e.2) es.toList with
 |none=>rw[hr] at h;exact wpAny_pure h
 |some j=>rw[hr] at h;dsimp only;refine rwI (Nat.zero_add ..) ?_;exact wpAny_pure h
theorem find_mem (p:Sat G h a m es ep t o)(i:Int):(es.toList.findIdx? λe=>(IK G).is i e.2).isSome=m i:=by
 cases hr:List.findIdx? (λe=>(IK G).is i e.2) es.toList with
 |none=>
  cases q:m i with
  |false=>rfl
  |true=>
   obtain⟨e,he,hk⟩:=(p.mem i).mp q
   have:=List.findIdx?_eq_none_iff.mp hr e he
   rw[hk] at this;cases this
 |some j=>
  obtain⟨hj,hpj,_⟩:=List.findIdx?_eq_some_iff_getElem.mp hr
  refine rwI ((p.mem i).mpr ⟨_,List.getElem_mem hj,hpj⟩) ?_;rfl
theorem toList_eraseAt {α:Type}(xs:Array α)(p:Nat):(SetTable.eraseAt xs p).toList=xs.toList.eraseIdx p:=by
 unfold SetTable.eraseAt
 refine rwI (List.eraseIdx_eq_take_drop_succ ..) ?_
 simp[List.extract_eq_take_drop,List.take_of_length_le]
theorem mcut_eq {i:Int}(hm:m i=false):(λj=>m j&&j != i)=m:=funext λj=>by
 by_cases q:j=i
 ·(refine rwI q ?_;refine rwI hm ?_);rfl
 ·(refine rwI (bne_iff_ne.mpr q) ?_;refine rwI (Bool.and_true ..) ?_;rfl)
theorem mcut_cnt {i:Int}(hb:∀ i,m i=true→0≤i∧i < 32)(fm:m i=true):cntI (λk=>m k&&k != i)=cntI m - 1:=by
 have:=cntI_add (λk=>m k&&k != i) (hb i fm).1 (hb i fm).2
 have e:(λj=>(m j&&j != i)||j==i)=m:=funext λj=>by
  by_cases q:j=i
  ·(refine rwI q ?_;refine rwI fm ?_;refine rwI (beq_self_eq_true ..) ?_;refine rwI (Bool.or_true ..) ?_;rfl)
  ·(refine rwI (beq_eq_false_iff_ne.mpr q) ?_;refine rwI (Bool.or_false ..) ?_;refine rwI (bne_iff_ne.mpr q) ?_;refine rwI (Bool.and_true ..) ?_;rfl)
 rw[e,if_neg (by (refine rwI (bne_self_eq_false ..) ?_;refine rwI (Bool.and_false ..) ?_);exact Bool.false_ne_true)] at this
 exact (congrArg (· - 1) this).symm
theorem erase_size {α:Type}{xs:Array α}{j:Nat}(hj:j < xs.size):(SetTable.eraseAt xs j).size=xs.size - 1:=by
 (refine rwS Array.length_toList ?_;refine rwI (toList_eraseAt ..) ?_;refine rwI (List.length_eraseIdx_of_lt hj) ?_;refine rwI Array.length_toList ?_;rfl)
theorem drop_fits {j n:Nat}(hf:t.fits n=true)(hj:j < n):(t.drop j).fits (n - 1)=true∧((t.drop j).fill=0→False):=by
 obtain⟨h1,h2⟩:=Bool.and_eq_true_iff.mp (show (t.place.size==n&&decide (t.fill≤t.mask))=true from hf)
 replace h1:=eq_of_beq h1
 replace h2:t.fill≤t.mask:=of_decide_eq_true h2
 have hp:j < t.place.size:=h1 ▸ hj
 have e1:=erase_size hp
 have e2:∀ q x,(SetTable.insertAt t.dummies q x).size=t.dummies.size+1:=λq x=>by (refine rwS Array.length_toList ?_;refine rwI ((SetTable.insertAt_perm _ _ _).length_eq) ?_;refine rwI Array.length_toList ?_;refine rwI (Array.size_push ..) ?_;rfl)
 have e3:(t.drop j).place.size=t.place.size - 1∧(t.drop j).fill=t.fill∧(t.drop j).mask=t.mask:=by
  unfold SetTable.drop
  refine rwI (Array.getElem?_eq_getElem hp) ?_
  dsimp only
  refine⟨e1,?_,rfl⟩
  unfold SetTable.fill
  dsimp only
  (refine rwI e1 ?_;refine rwI (e2 ..) ?_);clear h2;lia
 obtain⟨f1,f2,f3⟩:=e3
 refine⟨Bool.and_eq_true_iff.mpr ⟨beq_iff_eq.mpr (by (refine rwI f1 ?_;refine rwI h1 ?_;rfl)),decide_eq_true (by (refine rwI f2 ?_;refine rwI f3 ?_);exact h2)⟩,λe=>?_⟩
 rw[f2] at e
 rw[(Nat.add_eq_zero_iff.mp (show t.place.size+_=0 from e)).1] at hp
 exact Nat.not_lt_zero _ hp
theorem Sat.cut {i:Int}{w:Tok}{j:Nat}(p:Sat G h a m es ep t o)(hb:∀ i,m i=true→0≤i∧i < 32)(hz:es.size=cntI m)(hj:j < es.toList.length)(e:es.toList[j]=(i,Value.int i w))(k:Int) :
  (m k&&k != i)=true↔∃ e∈es.toList.eraseIdx j,(IK G).is k e.2=true:=by
 have nd:=p.nodup hb hz
 have split:es.toList=es.toList.take j++(i,Value.int i w)::es.toList.drop (j+1):=by (refine rwS e ?_;refine rwI (List.getElem_cons_drop ..) ?_;refine rwI (List.take_append_drop ..) ?_;rfl)
 (refine rwI (List.eraseIdx_eq_take_drop_succ ..) ?_;refine rwI (Bool.and_eq_true ..) ?_;refine rwI (propext bne_iff_ne) ?_;refine rwI (propext (p.mem k)) ?_)
 have ps:=p.small hb
 clear p hz
 generalize es.toList.take j=l at split ⊢
 generalize es.toList.drop (j+1)=r at split ⊢
 rw[split] at nd ps ⊢
 clear split e
 have is:∀ {e:Int×Value},e∈l++(i,Value.int i w)::r→(IK G).is k e.2=true→e.1=k:=λhe hk=>by
  obtain⟨i2,w2,rfl,_⟩:=ps _ he
  exact eq_of_beq (show (i2==k)=true from hk)
 clear ps
 refine⟨λq=>?_,λq=>?_⟩
 ·obtain⟨⟨e',he,hk⟩,hne⟩:=q
  refine⟨e',(List.mem_append.mp he).elim (List.mem_append_left _) λhe=>?_,hk⟩
  exact (List.mem_cons.mp he).elim (λq=>(hne (by (refine rwS (is (List.mem_append_right _ he) hk) ?_;refine rwI q ?_;rfl))).elim) (List.mem_append_right _)
 ·obtain⟨e',he,hk⟩:=q
  have he2:e'∈l++(i,Value.int i w)::r:=(List.mem_append.mp he).elim (List.mem_append_left _) λhe=>List.mem_append_right _ (.tail _ he)
  refine⟨⟨e',he2,hk⟩,λq=>?_⟩
  have e1:=(is he2 hk).trans q
  rw[List.map_append,List.map_cons] at nd
  obtain⟨_,nd2,nd3⟩:=List.nodup_append.mp nd
  refine (List.mem_append.mp he).elim (λhe=>?_) λhe=>?_
  ·exact nd3 i (List.mem_map.mpr ⟨_,he,e1⟩) i (.head _) rfl
  ·exact (List.nodup_cons.mp nd2).1 (List.mem_map.mpr ⟨_,he,e1⟩)
theorem discard_ok {i:Int}{u:Tok}{Q:Value→Shared→Prop}(r:SetRel G s.heap a m)
  (h:∀ h' t',Heap.SameBut a s.heap h'→SetRel G h' a (λj=>m j&&j != i)→Q .none { s with heap:=h',toks:=t' }) :
  wpAny (model G.prog G.w) A (call (.builtin "set.discard") [.ref a,.int i u]) Q Er s:=by
 obtain⟨es,ep,t,o,p,hz,ht⟩:=r.parts
 refine wpAny_call_entry F.slot_set_discard p.setOf.typeIs F.entry_set_discard ?_ (F.args_set_discard_2 _ _)
 unfold Builtin.«set.discard» Builtin.Frozenset.oneOther
 simp only[List.isEmpty_nil,bind_assoc]
 unfold Builtin.Frozenset.addrOf Builtin.Frozenset.withSetAsKey setDiscard
 refine wpAny_bind (wpAny_pure ?_)
 try dsimp only
 refine wpAny_bind (wpAny_pure ?_)
 try dsimp only
 refine wpAny_bind (wpAny_tryCatch ?_)
 refine wpAny_holding ?_
 refine wpAny_bind ((IK G).pyHash (k:=i) (intIs i u) ?_)
 unfold setDiscardHashed
 have p':Sat G ({ s with toks:=s.toks+1 }:Shared).heap a m es ep t o:=p
 refine wpAny_bind (setFind_ok (s:={ s with toks:=s.toks+1 }) p' ?_)
 have fm:=find_mem p i
 refine ocase (o:=es.toList.findIdx? λe=>(IK G).is i e.2) (λhr=>?_) λj hr=>?_
 ·rw[hr] at fm ⊢
  refine wpAny_pure ?_
  refine wpAny_pure ⟨_,rfl,h s.heap _ (Heap.SameBut.refl ..) ?_⟩
  refine rwI (mcut_eq fm.symm) ?_;exact r
 ·rw[hr] at fm ⊢
  replace fm:m i=true:=fm.symm
  refine wpAny_bind (wpAny_setState_of (s:={ s with toks:=s.toks+1 }) p.at_ p.dat p.fit ?_)
  dsimp only
  obtain⟨hj,hpj,_⟩:=List.findIdx?_eq_some_iff_getElem.mp hr
  have fd:=drop_fits p.fit hj
  have hez:=erase_size (xs:=es) hj
  obtain⟨i',w,e,_⟩:=p.small r.2.1 _ (List.getElem_mem hj)
  rw[e] at hpj
  have e2:i'=i:=eq_of_beq (show (i'==i)=true from hpj)
  rw[e2] at e
  have hm:=p.cut r.2.1 hz hj e
  rw[← toList_eraseAt] at hm
  clear hpj e2 e hr
  refine wpAny_bind (p'.store (t':=t.drop j) (λe he=>p.el e (List.mem_of_mem_eraseIdx (toList_eraseAt es j ▸ he))) hm (hez ▸ Nat.lt_of_le_of_lt (Nat.sub_le ..) p.few) (hez ▸ fd.1) λh' ep' o' hs p''=>?_)
  refine wpAny_bind (wpAny_point (wpAny_pure ?_))
  exact wpAny_pure ⟨_,rfl,h h' _ hs (p''.rel (by (refine rwI hez ?_;refine rwI (mcut_cnt r.2.1 fm) ?_;refine rwI hz ?_;rfl)) (λk hk=>r.2.1 k (Bool.and_eq_true_iff.mp hk).1) λe0=>(fd.2 e0).elim)⟩
end
section
variable {G:Glo}{A:Around}{Er:Value→Shared→Prop}{s:Shared}{h:Heap}{a b f:Nat}{m m':Int→Bool}{es:Array (Int×Value)}{ep:Nat}{t:SetTable}{o:Obj}
theorem add_ok {i:Int}{u:Tok}{Q:Value→Shared→Prop}(r:SetRel G s.heap a m)(h0:0≤i)(h1:i < 32)
  (h:∀ h' t',Heap.SameBut a s.heap h'→SetRel G h' a (λj=>m j||j==i)→Q .none { s with heap:=h',toks:=t' }) :
  wpAny (model G.prog G.w) A (call (.builtin "set.add") [.ref a,.int i u]) Q Er s:=by
 have hl:=cntI_le m
 have hb:scanBound=4096:=rfl
 refine call_set_add (knd:=IK G) (k:=i) (intIs i u) rfl r.1 (by lia) λh' hs hS=>h h' _ hs ?_
 have e:(λk'=>m k'||decide (k'=i))=λj=>m j||j==i:=by funext j;congr 1
 rw[e] at hS
 refine SetRel.ofSetOf (i:=i) ?_ (λj hj=>?_) (by simp)
 ·refine rwI (cntI_add m h0 h1) ?_;exact hS
 ·rcases Bool.or_eq_true_iff.mp hj with hj|hj
  ·exact r.2.1 j hj
  ·refine rwI (eq_of_beq hj) ?_;exact⟨h0,h1⟩
theorem SetRel.typeIs (r:SetRel G s.heap a m):s.TypeIs (.ref a) "set":=r.1.typeIs
theorem isAnySet_ok {Q:Bool→Shared→Prop}(r:SetRel G s.heap a m)(h:Q true s):wpAny (model G.prog G.w) A (Builtin.Frozenset.isAnySet (.ref a)) Q Er s:=by
 unfold Builtin.Frozenset.isAnySet
 exact wpAny_bind (wpAny_isInstance r.typeIs sub_set_self (wpAny_pure h))
theorem sizeOf_ok {Q:Nat→Shared→Prop}(r:SetRel G s.heap a m)(h:Q (cntI m) s):wpAny (model G.prog G.w) A (Builtin.Frozenset.sizeOf a) Q Er s:=by
 obtain⟨es,ep,t,o,p,hz,ht⟩:=r.parts
 unfold Builtin.Frozenset.sizeOf
 exact wpAny_bind (wpAny_setEntries_of p.at_ p.dat p.fit (wpAny_pure (by refine rwI hz ?_;exact h)))
theorem unchanged_ok {id:String}{Q:Unit→Shared→Prop}(p:Sat G s.heap a m es ep t o)(h:Q () s):wpAny (model G.prog G.w) A (Builtin.Frozenset.unchanged id a ep) Q Er s:=by
 unfold Builtin.Frozenset.unchanged
 refine wpAny_bind (wpAny_setEpoch_of p.at_ p.dat p.fit ?_)
 (refine rwI (bne_self_eq_false ..) ?_;refine rwI (if_neg Bool.false_ne_true) ?_)
 exact wpAny_pure h
theorem quietEq_int {i:Int}{u:Tok}{Q:Bool→Shared→Prop}(h:Q true s):wpAny (model G.prog G.w) A (Builtin.Frozenset.quietEq (.int i u)) Q Er s:=wpAny_pure h
theorem walkUnseen_ok {Q:List (Int×Value)→Shared→Prop}(p:Sat G s.heap a m es ep t o)(hb:∀ i,m i=true→0≤i∧i < 32) {es' ep' t' o'}(p':Sat G s.heap b m' es' ep' t' o')(hb':∀ i,m' i=true→0≤i∧i < 32)
  (h:Q es.toList s):wpAny (model G.prog G.w) A (Builtin.Frozenset.walkUnseen a b) Q Er s:=by
 unfold Builtin.Frozenset.walkUnseen
 refine wpAny_bind (wpAny_setEntries_of p.at_ p.dat p.fit ?_)
 refine wpAny_bind (wpAny_setEntries_of p'.at_ p'.dat p'.fit ?_)
 refine wpAny_bind (wpAny_mono (wpAny_forIn_list _ (λrest r s'=>r.1=none∧s'=s∧∀ e∈rest,e∈es.toList++es'.toList) (λr s'=>r.1=none∧s'=s) ?_ ?_ _ _ ⟨rfl,rfl,λe he=>he⟩) ?_ λx_ x_ e=>e)
 ·rintro⟨x,v⟩ rest r s' ⟨h1,h2,h3⟩
  have:∃ i u,v=.int i u:=by
   rcases List.mem_append.mp (h3 _ (.head _)) with q|q
   ·obtain⟨i,u,e,_⟩:=p.small hb _ q;cases e;exact⟨_,_,rfl⟩
   ·obtain⟨i,u,e,_⟩:=p'.small hb' _ q;cases e;exact⟨_,_,rfl⟩
  obtain⟨i,u,rfl⟩:=this
  refine wpAny_bind (quietEq_int ?_)
  (refine rwI Bool.not_true ?_;refine rwI (if_neg Bool.false_ne_true) ?_)
  exact wpAny_pure ⟨rfl,h2,λe he=>h3 e (.tail _ he)⟩
 ·rintro r s' ⟨h1,h2,_⟩;exact⟨h1,h2⟩
 ·rintro⟨r1,r2⟩ s' ⟨h1,h2⟩
  have h1:r1=none:=h1
  subst h1 h2
  exact wpAny_pure h
theorem subsetOf_ok {id:String}{Q:Bool→Shared→Prop}(r:SetRel G s.heap a m)(r':SetRel G s.heap b m')(h:∀ c:Bool,(c=true↔∀ i,m i=true→m' i=true)→Q c s) :
  wpAny (model G.prog G.w) A (Builtin.Frozenset.subsetOf id a b) Q Er s:=by
 obtain⟨es,ep,t,o,p,hz,ht⟩:=r.parts
 obtain⟨es',ep',t',o',p',hz',ht'⟩:=r'.parts
 unfold Builtin.Frozenset.subsetOf
 refine wpAny_bind (sizeOf_ok r (wpAny_bind (sizeOf_ok r' ?_)))
 by_cases hgt:cntI m > cntI m'
 ·refine rwI (if_pos hgt) ?_
  exact wpAny_pure (h false ⟨λe=>(nomatch e),λe=>by have:=cntI_sub e;lia⟩)
 ·refine rwI (if_neg hgt) ?_
  refine wpAny_bind (wpAny_setEpoch_of p.at_ p.dat p.fit ?_)
  refine wpAny_bind (walkUnseen_ok p r.2.1 p' r'.2.1 ?_)
  refine wpAny_bind (wpAny_mono (wpAny_forIn_list _ (λrest c s'=>c.1=none∧s'=s∧(∀ e∈rest,e∈es.toList)∧∀ e∈es.toList,e∈rest∨m' e.1=true)
   (λc s'=>s'=s∧((c.1=none∧∀ e∈es.toList,m' e.1=true)∨(c.1=some false∧∃ e∈es.toList,m' e.1=false))) ?_ ?_ _ _ ⟨rfl,rfl,λe he=>he,λe he=>.inl he⟩) ?_ λx_ x_ e=>e)
  ·rintro⟨x,v⟩ rest c s' ⟨h1,h2,h3,h4⟩
   subst h2
   obtain⟨i,u,e,h0,hlt,hmi⟩:=p.small r.2.1 _ (h3 _ (.head _))
   cases e
   dsimp only
   have:=setFind_ok (A:=A) (Er:=Er) (s:=s') (i:=x) (u:=u) (Q:=λq s₂=>q.isSome=m' x∧s₂=s') p' ⟨find_mem p' x,rfl⟩
   rw[hash_small h0 hlt] at this
   refine wpAny_bind (wpAny_holding (wpAny_mono this (λq s₂ pz6=>?_) λx_ x_ e=>e))
   obtain⟨q1,q2⟩:=pz6
   subst q2
   cases qm:m' x with
   |true=>
    rw[qm] at q1
    have:q.isNone=false:=by (refine rwS (Option.not_isSome ..) ?_;refine rwI q1 ?_);rfl
    (refine rwI this ?_;refine rwI (if_neg Bool.false_ne_true) ?_)
    refine wpAny_bind (unchanged_ok p ?_)
    refine wpAny_pure ⟨rfl,rfl,λe he=>h3 e (.tail _ he),λe he=>?_⟩
    rcases h4 e he with q'|q'
    ·rcases List.mem_cons.mp q' with rfl|q'
     ·exact .inr qm
     ·exact .inl q'
    ·exact .inr q'
   |false=>
    rw[qm] at q1
    have:q.isNone=true:=by (refine rwS (Option.not_isSome ..) ?_;refine rwI q1 ?_);rfl
    (refine rwI this ?_;refine rwI (if_pos rfl) ?_)
    exact wpAny_pure ⟨rfl,.inr ⟨rfl,_,h3 _ (.head _),qm⟩⟩
  ·rintro c s' ⟨h1,h2,h3,h4⟩
   exact⟨h2,.inl ⟨h1,λe he=>(h4 e he).elim (λq=>nomatch q) λq=>q⟩⟩
  ·rintro⟨c1,c2⟩ s' ⟨h2,h1⟩
   subst h2
   rcases h1 with⟨h1,hall⟩|⟨h1,e,he,hf⟩
   ·have h1:c1=none:=h1
    subst h1
    refine wpAny_pure (h true ⟨λx_ i hi=>?_,λx_=>rfl⟩)
    obtain⟨e,he,hk⟩:=(p.mem i).mp hi
    obtain⟨j,u,rfl,_,_,_⟩:=p.small r.2.1 e he
    have:j=i:=eq_of_beq (show (j==i)=true from hk)
    subst this
    exact hall _ he
   ·have h1:c1=some false:=h1
    subst h1
    refine wpAny_pure (h false ⟨λe=>(nomatch e),λhs=>?_⟩)
    obtain⟨j,u,rfl,_,_,hm⟩:=p.small r.2.1 e he
    rw[hs j hm] at hf;exact nomatch hf
theorem le_ok {Q:Value→Shared→Prop}{n:Nat}(ao:AOk n A)(r:SetRel G s.heap a m)(r':SetRel G s.heap b m')(h:∀ c:Bool,(c=true↔∀ i,m i=true→m' i=true)→Q (.bool c) s) :
  wpAny (model G.prog G.w) A (compareOp .LtE (.ref a) (.ref b)) Q Er s:=by
 have un:=ao.un
 have hc:cLine=9900:=rfl
 refine (?_:wpAny _ _ (richCompare .LtE _ _) _ _ _)
 refine wpAny_richCompare_same_room r.typeIs r'.typeIs F.slot_set_le (wpAny_call_entry F.slot_set_le r.typeIs entry_set_le ?_ (F.args_set_le_2 _ _)) (by lia)
 refine rwI (le_eq ..) ?_
 refine wpAny_bind (isAnySet_ok r' ?_)
 (refine rwI Bool.not_true ?_;refine rwI (if_neg Bool.false_ne_true) ?_)
 exact wpAny_bind (sizeOf_ok r (wpAny_bind (sizeOf_ok r' (wpAny_bind (subsetOf_ok r r' λc hc=>wpAny_pure ⟨_,rfl,by simp,h c hc⟩)))))
theorem ne_ok {Q:Value→Shared→Prop}{n:Nat}(ao:AOk n A)(r:SetRel G s.heap a m)(r':SetRel G s.heap b m')(h:∀ c:Bool,(c=true↔m≠m')→Q (.bool c) s) :
  wpAny (model G.prog G.w) A (compareOp .NotEq (.ref a) (.ref b)) Q Er s:=by
 have un:=ao.un
 have hc:cLine=9900:=rfl
 refine (?_:wpAny _ _ (richCompare .NotEq _ _) _ _ _)
 refine wpAny_richCompare_same_room r.typeIs r'.typeIs F.slot_set_ne (wpAny_call_entry F.slot_set_ne r.typeIs entry_set_ne ?_ (F.args_set_ne_2 _ _)) (by lia)
 obtain⟨Y,e⟩:=set_ne_eq a b
 refine rwI e ?_
 refine wpAny_bind (isAnySet_ok r' ?_)
 (refine rwI Bool.not_true ?_;refine rwI (if_neg Bool.false_ne_true) ?_)
 refine wpAny_bind (sizeOf_ok r (wpAny_bind (sizeOf_ok r' (wpAny_bind ?_))))
 by_cases q:cntI m=cntI m'
 ·(refine rwI q ?_;refine rwI (bne_self_eq_false ..) ?_;refine rwI (if_neg Bool.false_ne_true) ?_)
  refine wpAny_bind (wpAny_bind (wpAny_isInstance r.typeIs sub_set_frozen (wpAny_pure ?_)))
  refine rwI (if_neg Bool.false_ne_true) ?_
  refine subsetOf_ok r r' λc hc=>wpAny_pure ⟨_,rfl,by simp,h _ ?_⟩
  cases c with
  |true=>
   have:=cntI_eq (hc.mp rfl) r.2.1 r'.2.1 q
   exact⟨λe=>(nomatch e),λe=>absurd this e⟩
  |false=>exact⟨λx_ e=>(nomatch hc.mpr (e ▸ λi hi=>hi)),λx_=>rfl⟩
 ·refine rwI (if_pos (by simpa using q)) ?_
  exact wpAny_pure (wpAny_pure ⟨_,rfl,by simp,h true ⟨λx_ e=>q (by (refine rwI e ?_;rfl)),λx_=>rfl⟩⟩)
theorem fills_set_or:fillsInplaceSlot (.type "set") "or" false=pure true:=by
 unfold fillsInplaceSlot
 refine (?_:(typeLookup (.type "set") (dunderI "or") >>= λfi=>pure (fi.isSome && !isSeqSlot fi))=pure true)
 refine rwI F.slot_set_ior.lookup ?_
 have:isSeqSlot (some (.builtin "set.__ior__"))=false:=by decide +kernel
 refine (?_:(pure (true && !isSeqSlot (some (.builtin "set.__ior__"))):Sem Bool)=pure true)
 refine rwI this ?_;rfl
theorem updateFrom_ok {id:String}{Q:Unit→Shared→Prop}(r:SetRel G s.heap a m)(r':SetRel G s.heap b m')
  (h:∀ h',Heap.SameBut a s.heap h'→SetRel G h' a (λi=>m i||m' i)→Q () { s with heap:=h' }) :
  wpAny (model G.prog G.w) A (Builtin.Frozenset.updateFrom id a (.ref b)) Q Er s:=by
 obtain⟨es',ep',t',o',p',hz',ht'⟩:=r'.parts
 unfold Builtin.Frozenset.updateFrom
 refine wpAny_bind (isAnySet_ok r' ?_)
 refine rwI (if_pos rfl) ?_
 refine wpAny_bind (wpAny_pure ?_)
 unfold Builtin.Frozenset.merge
 refine wpAny_bind (wpAny_setEpoch_of p'.at_ p'.dat p'.fit ?_)
 exact setMerge_ok r r' (λs₁ Q' hb hq=>unchanged_ok (p'.keeps hb) hq) h
theorem ior_ok {Q:Value→Shared→Prop}(r:SetRel G s.heap a m)(r':SetRel G s.heap b m')
  (h:∀ h',Heap.SameBut a s.heap h'→SetRel G h' a (λi=>m i||m' i)→Q (.ref a) { s with heap:=h' }) :
  wpAny (model G.prog G.w) A (inplaceOp .BitOr (.ref a) (.ref b)) Q Er s:=by
 unfold inplaceOp
 try with_reducible refine wpAny_holding ?_
 refine wpAny_bind (wpAny_typeOf r.typeIs (wpAny_bind (wpAny_of_eq fills_set_or ?_)))
 refine rwI (if_pos rfl) ?_
 refine wpAny_bind (wpAny_tryMethod_slot r.typeIs F.slot_set_ior (wpAny_call_entry F.slot_set_ior r.typeIs F.entry_set_ior ?_ (F.args_set_ior_2 _ _)))
 refine rwI (ior_eq ..) ?_
 refine wpAny_bind (isAnySet_ok r' ?_)
 (refine rwI Bool.not_true ?_;refine rwI (if_neg Bool.false_ne_true) ?_)
 exact wpAny_bind (updateFrom_ok r r' λh' hs r2=>wpAny_pure ⟨_,rfl,by simp,wpAny_bind (wpAny_rule (wpAny_pure (h h' hs r2)))⟩)
end
noncomputable abbrev freshSet (led:Bool):Obj:={ cls:=.type "set",dict:=none,data:=.set #[] 0 (.fresh 0 0 led) }
section
variable {G:Glo}{A:Around}{Er:Value→Shared→Prop}{s:Shared}{h:Heap}{a b f:Nat}{m m':Int→Bool}{es:Array (Int×Value)}{ep:Nat}{t:SetTable}{o:Obj}
theorem fresh_rel (h:Heap)(led:Bool):SetRel G (h.push (freshSet led)) h.objs.size (λx_=>false):=by
 refine⟨?_,λi e=>(nomatch e),_,#[],0,_,Heap.get?_push_size _ rfl,rfl,λx_=>rfl⟩
 refine rwI cntI_false ?_
 exact⟨_,#[],0,_,Heap.get?_push_size _ rfl,⟨rfl,rfl,rfl⟩,rfl,λe he=>by simp at he,λk=>by simp,by decide,by rfl,rfl⟩
theorem set0_ok {Q:Value→Shared→Prop}(h:∀ led:Bool,Q (.ref s.heap.objs.size) { s with heap:=s.heap.push (freshSet led) }):wpAny (model G.prog G.w) A (call (.type "set") []) Q Er s:=call_set_0 h
set_option maxHeartbeats 3200000 in
theorem set_set_ok {Q:Value→Shared→Prop}(r:SetRel G s.heap b m)
  (h:∀ led h',Heap.SameBut s.heap.objs.size (s.heap.push (freshSet led)) h'→SetRel G h' s.heap.objs.size m→Q (.ref s.heap.objs.size) { s with heap:=h' }) :
  wpAny (model G.prog G.w) A (call (.type "set") [.ref b]) Q Er s:=by
 obtain⟨c,tl,hmro⟩:=F.called_set.mro
 have hmade:=F.called_set.made
 have hsub:=F.called_set.sub
 refine wpAny_call (codeAny_of_tree ?_)
 refine (?_:wpAny _ _ (callAny (.type "set") _) _ _ _)
 refine wpAny_pure ⟨Code.quiet_builtin _ (by decide +kernel),codeAny_builtin F.entry_type_call ?_⟩
 refine rwI (Around.under_plain (weight_type_call_type "set" [.ref b] []) rfl) ?_
 have h1:=F.called_set.notType
 have h2:=F.called_set.canCreate
 have hct:=F.typeCall_set_1 (.ref b)
 repeat (any_goals (first|assumption|wp_step))
 refine codeAny_mono (code_set_new_1 (.ref b) (E:=Er) (Q₁:=λobj s₁=>∃ led:Bool,obj=.ref s.heap.objs.size∧s₁={ s with heap:=s.heap.push (freshSet led) }) λled=>⟨led,rfl,rfl⟩) λr₁ s₁ hr=>?_
 cases r₁ with
 |error e=>exact hr
 |ok fl=>
  cases fl with
  |ret obj=>
   obtain⟨led,rfl,rfl⟩:=hr
   have hS:(s.heap.push (freshSet led)).get? s.heap.objs.size=some (freshSet led):=Heap.get?_push_size _ rfl
   have hT:Shared.TypeIs { s with heap:=s.heap.push (freshSet led) } (.ref s.heap.objs.size) "set":=⟨_,hS,rfl⟩
   have hli:=F.called_set.init.lookup
   have hbi:=F.called_set.init.bind (.ref s.heap.objs.size)
   repeat (any_goals (first|assumption|wp_step))
   refine codeAny_mono (codeAny_call_builtin (R:=wants (λr s₂=>r=.none∧Q (.ref s.heap.objs.size) s₂) Er) F.called_set.init.plain F.entry_set_init (check_set_init_1 hT ?_)) λr₂ s₂ hr₂=>?_
   ·have r0:=fresh_rel (G:=G) s.heap led
    have rb:SetRel G (s.heap.push (freshSet led)) b m:=r.at λo e=>Heap.get?_push_of_some _ e
    unfold Builtin.«set.__init__» noKeywords
    generalize hU:Builtin.Frozenset.updateFrom=U
    wp_walk
    subst hU
    refine updateFrom_ok (s:={ s with heap:=s.heap.push (freshSet led) }) r0 rb λh' hs r'=>?_
    have:(λi=>(λx_:Int=>false) i||m i)=m:=by funext i;(refine rwI (Bool.false_or ..) ?_;rfl)
    rw[this] at r'
    exact wpAny_pure ⟨rfl,h led h' hs r'⟩
   ·cases r₂ with
    |error e=>exact hr₂
    |ok fl₂=>
     cases fl₂ with
     |ret r₃=>
      obtain⟨rfl,hq⟩:=hr₂
      repeat (any_goals (first|assumption|wp_step))
     |_=>exact hr₂.elim
  |_=>exact hr.elim
theorem firstMet_cnt (val:Nat→Int)(n:Nat):∀ i,i≤n→(∀ j,j < n→0≤val j∧val j < 32)→(firstMet val i).length=cntI (λk=>(firstMet val i).any (· == k)):=@λy_1=>@λy_2=>@λy_3=>match @y_1,@y_2,@y_3 with
 |0,x_1,x_2=>by refine rwI (firstMet_zero ..) ?_;exact cntI_false.symm
 |i+1,hi,hv=>by
  have ih:=firstMet_cnt val n i (by lia) hv
  obtain⟨h0,h1⟩:=hv i (by lia)
  have e:(λk=>(firstMet val (i+1)).any (· == k))=λk=>(λk=>(firstMet val i).any (· == k)) k||k==val i:=by
   funext k;(refine rwI (firstMet_succ ..) ?_;refine rwI (step_any ..) ?_);congr 1
  (refine rwI e ?_;refine rwI (cntI_add _ h0 h1) ?_;refine rwI (firstMet_succ ..) ?_;refine rwI (step_length ..) ?_;refine rwI ih ?_;rfl)
theorem set_list_ok {l n:Nat}{xs:List AV}{vs:List Value}{is:List Int}{F:Nat→Prop}{Q:Value→Shared→Prop}(hh:A.handled=none)(hl:s.heap.get? l=some { cls:=.type "list",data:=.seq vs.toArray n })
  (rs:VRels G F s.heap xs vs) (hi:intsOf xs=some is) (hb:∀ i∈is,0≤i∧i < 32) (hn:is.length < 1000) (hemp:is≠[])
  (h:∀ h' tk,(∀ b o,s.heap.get? b=some o→h'.get? b=some o)→SetRel G h' s.heap.objs.size (setM is)→Q (.ref s.heap.objs.size) { s with heap:=h',toks:=tk }) :
  wpAny (model G.prog G.w) A (call (.type "set") [.ref l]) Q Er s:=by
 have hia:IntsAre vs is:=by
  clear hl hb hn h hemp
  induction xs generalizing vs is with
  |nil=>cases rs;cases hi;exact .nil
  |cons x xs ih=>
   cases rs with
   |cons r0 r=>
    cases x with
    |int x=>
     cases r0
     obtain⟨is',e,rfl⟩:=Option.map_eq_some_iff.mp (show (intsOf xs).map (x :: ·)=some is from hi)
     exact .cons _ _ (ih r e)
    |_=>exact none_some hi
 have hvn:vs.length=is.length:=IntsAre.length hia
 have hb4:scanBound=4096:=rfl
 have hval:∀ j,j < vs.length→0≤is.getD j 0∧is.getD j 0 < 32:=λj hj=>by
  (refine rwI (List.getD_eq_getElem?_getD) ?_;refine rwI (List.getElem?_eq_getElem (by lia)) ?_)
  exact hb _ (List.getElem_mem _)
 refine call_set_list (items:=vs.toArray) (ns:=is) hh (isList_of hl) (by simpa using hia) (by simp only[List.size_toArray];lia) λh' tk hS hk=>h h' tk (λb o e=>hk b o (Heap.lt_size e) e) ?_
 simp only[List.size_toArray] at hS
 have e:(λk'=>(firstMet (λi=>is.getD i 0) vs.length).any (· == k'))=setM is:=by
  funext k
  refine rwI (firstMet_any ..) ?_
  unfold setM
  have:(List.range vs.length).map (λi=>is.getD i 0)=is:=by
   apply List.ext_getElem
   ·simp[hvn]
   ·intro i h1 h2
    simp
    refine rwI (List.getElem?_eq_getElem (by simpa using h2)) ?_;rfl
  (refine rwI this ?_;refine rwI List.any_beq' ?_;rfl)
 have hc:=firstMet_cnt (λi=>is.getD i 0) vs.length vs.length (Nat.le_refl _) hval
 rw[e] at hc hS
 rw[hc] at hS
 have hbd:∀ i,setM is i=true→0≤i∧i < 32:=λi hi=>hb i (by unfold setM at hi;exact List.contains_iff_mem.mp hi)
 refine⟨hS,hbd,?_⟩
 obtain⟨i,hi⟩:=List.exists_mem_of_ne_nil _ hemp
 exact (SetRel.ofSetOf hS hbd (i:=i) (by unfold setM;exact List.contains_iff_mem.mpr hi)).2.2
theorem inMain_ok {X:Nat→Prop}{H:AHeap}{env:Env}{names:Nms}{Q:Bool→Shared→Prop}(eo:EnvOk G X env names)(i:Inv G X H s.heap)(h:∀ r,Q r s):wpAny (model G.prog G.w) A (inMainModule env) Q Er s:=by
 obtain⟨q,c,o,vs,t,e,g,d,_⟩:=eo.cr
 unfold inMainModule
 refine rwI e ?_
 have:(Value.ref c==Value.none)=false:=rfl
 (refine rwI this ?_;refine rwI (if_neg Bool.false_ne_true) ?_)
 unfold fieldsOf
 refine wpAny_bind (wpAny_bind (wpAny_load (i.keeps0 _ _ g) ?_))
 refine rwI d ?_
 refine wpAny_pure ?_
 split
 ·exact wpAny_bind (wpAny_askSetting (wpAny_pure (h _)))
 ·exact wpAny_pure (h _)
theorem setDisplay_ok {x:Sem Value}{c:Bool}{Q:Value→Shared→Prop}{road:DisplayRoad}(hr:road=.oneByOne)
  (h:∀ led,wpAny (model G.prog G.w) A x (λv s₁=>∃ i u,v=.int i u∧0≤i∧i < 32∧SetRel G s₁.heap s.heap.objs.size (λx_=>false) ∧
   ∀ h' t',Heap.SameBut s.heap.objs.size s₁.heap h'→SetRel G h' s.heap.objs.size (λj=>j==i)→Q (.ref s.heap.objs.size) { s₁ with heap:=h',toks:=t' }) Er { s with heap:=s.heap.push (freshSet led) }) :
  wpAny (model G.prog G.w) A (setDisplay road c [(false,x)]) Q Er s:=by
 subst hr
 unfold setDisplay
 have:(DisplayRoad.oneByOne==DisplayRoad.constants)=false:=rfl
 simp only[this,Bool.false_eq_true,if_false]
 refine wpAny_bind (wpAny_newSet_of (knd:=IK G) λled x_=>?_)
 dsimp only
 refine wpAny_bind (wpAny_holding ?_)
 refine wpAny_bind ?_
 refine (?_:wpAny _ _ (evalAll [x]) _ _ _)
 refine wpAny_evalAll_cons (wpAny_mono (h led) (λv s₁ ⟨i,u,hv,h0,h1,r,hq⟩=>wpAny_evalAll_nil ?_) λx_ x_ e=>e)
 subst hv
 refine wpAny_bind (wpAny_holding (wpAny_bind ?_))
 rewrite [List.forIn_cons]
 refine wpAny_bind (wpAny_bind ?_)
 unfold setAdd
 refine wpAny_holding (wpAny_bind ((IK G).pyHash (k:=i) (intIs i u) ?_))
 refine addHashed_ok (s:={ s₁ with toks:=s₁.toks+1 }) r h0 h1 λx_ h' hs r'=>?_
 refine wpAny_pure ?_
 dsimp only
 rewrite [List.forIn_nil]
 refine wpAny_pure ?_
 have:(DisplayRoad.oneByOne==DisplayRoad.unsure)=false:=rfl
 (refine rwI this ?_;refine rwI (if_neg Bool.false_ne_true) ?_)
 refine wpAny_pure ?_
 refine (?_:wpAny _ _ (forIn [] _ _ >>= _) _ _ _)
 rewrite [List.forIn_nil]
 refine wpAny_bind (wpAny_pure (wpAny_pure (wpAny_pure ?_)))
 have e:(λj=>(λx_:Int=>false) j||j==i)=λj=>j==i:=by funext j;(refine rwI (Bool.false_or ..) ?_;rfl)
 rw[e] at r'
 exact hq h' _ hs r'
end
noncomputable def exprArgs (xs:List Expr) (env:Env):List (Bool×Sem Value):=xs.map λx=>(false,eval x env)
theorem starEach_eq {xs:List Expr}{env:Env}(h:∀ x∈xs,notStar x=true):starEach xs env=exprArgs xs env:=by
 induction xs with
 |nil=>rfl
 |cons x xs ih=>
  have:=ih λy hy=>h y (.tail _ hy)
  have hx:=h x (.head _)
  unfold exprArgs at this ⊢
  (refine rwI List.map_cons ?_;refine rwS this ?_)
  cases x<;>first|rfl|exact (Bool.false_ne_true hx).elim
theorem back_eq {xs:List Expr}{env:Env}{pos:Pos}(h:∀ x∈xs,notStar x=true):backTo pos (starEach xs env)=exprArgs xs env:=by
 refine rwI (starEach_eq h) ?_
 unfold backTo exprArgs
 refine rwI List.map_map ?_
 rfl
theorem exprArgs_plain (xs:List Expr)(env:Env):(exprArgs xs env).any (·.1)=false:=by
 induction xs with
 |nil=>rfl
 |cons x xs ih=>exact ih
inductive PVs (G:Glo)(X:Nat→Prop)(H₀:AHeap)(s₀:Shared)(R:List AV→AHeap→Prop)(vs:List Value)(s:Shared):Prop
 |mk (xs:List AV) (H:AHeap):R xs H→St G X No H₀ s₀ H s→VRels G (Fz H X) s.heap xs vs→PVs G X H₀ s₀ R vs s
inductive PT (G:Glo)(X:Nat→Prop)(H₀:AHeap)(s₀:Shared)(R:AV→Bool→AHeap→Prop)(b:Bool)(s:Shared):Prop
 |mk (x:AV) (H:AHeap):truth H x=some b→R x b H→St G X No H₀ s₀ H s→PT G X H₀ s₀ R b s
noncomputable def OrOk (G:Glo) (n:Nat) (f:Value) (L:Nat→Prop) (K:List AV→AHeap→(AV→AHeap→Prop)→Prop):Prop:=
 ∀ A X s H xs vs R Er,AOk n A→Inv G X H s.heap→VRels G (Fz H X) s.heap xs vs→(∀ a,L a→∃ o,s.heap.get? a=some o)→K xs H R→wpAny (model G.prog G.w) A (call f vs) (PV G X H s R) Er s
structure OrS (G:Glo)(n:Nat)(C:Oracle):Prop where
 fn:∀ f fa,f < 46→G.mg (S' (fnN f))=some (.ref fa)→OrOk G n (.ref fa) No (C f)
 cls:∀ c P,c < 3→OrOk G n (.ref (G.cls c)) P (opMk C P c)
section
variable {G:Glo}{X:Nat→Prop}{H H₀:AHeap}{A:Around}{Er:Value→Shared→Prop}{s s₀:Shared}{n:Nat}{env:Env}{sc:Nms}{vars:List Str}{ρ:AEnv}{R:AV→AHeap→Prop}
theorem PV.from {H₁:AHeap}{s₁ s₂:Shared}{v:Value}(st:St G X No H₀ s₀ H₁ s₁)(p:PV G X H₁ s₁ R v s₂):PV G X H₀ s₀ R v s₂:=
 let ⟨x,H,q,st',r⟩:=p;⟨x,H,q,st.trans st',r⟩
theorem VRel.st {H₁:AHeap}{s₁:Shared}{x:AV}{v:Value}(st:St G X No H₀ s₀ H₁ s₁)(r:VRel G (Fz H₀ X) s₀.heap x v):VRel G (Fz H₁ X) s₁.heap x v:=r.step st.steps λx_ e=>e.elim
theorem VRels.st {H₁:AHeap}{s₁:Shared}{x:List AV}{v:List Value}(st:St G X No H₀ s₀ H₁ s₁)(r:VRels G (Fz H₀ X) s₀.heap x v):VRels G (Fz H₁ X) s₁.heap x v:=r.step st.steps λx_ e=>e.elim
theorem Frm.st {H₁:AHeap}{s₁:Shared}(f:Frm G X H₀ s₀.heap env vars ρ)(st₀:Inv G X H₀ s₀.heap)(eo:EnvOk G X env sc)(st:St G X No H₀ s₀ H₁ s₁):Frm G X H₁ s₁.heap env vars ρ:=f.step st₀ eo st.steps
end
noncomputable def SndE (G:Glo) (C:Oracle) (n:Nat) (e:E):Prop:=∀ sc vars ex,mE sc vars e ex=true→∀ X A env s Er ρ H R,EnvOk G X env sc→AOk n A→Inv G X H s.heap→Frm G X H s.heap env vars ρ →
 wE C e ρ H R→wpAny (model G.prog G.w) A (eval (conc vars e ex) env) (PV G X H s R) Er s
noncomputable def SndT (G:Glo) (C:Oracle) (n:Nat) (e:E):Prop:=∀ sc vars ex,mE sc vars e ex=true→∀ X A env s Er ρ H K,EnvOk G X env sc→AOk n A→Inv G X H s.heap→Frm G X H s.heap env vars ρ →
 wE C e ρ H (λx H=>ok (truth H x) λt=>K x t H)→wpAny (model G.prog G.w) A (isTrue (conc vars e ex) env (eval (conc vars e ex) env)) (PT G X H s K) Er s
noncomputable def Snd (G:Glo) (C:Oracle) (n:Nat) (e:E):Prop:=SndE G C n e∧SndT G C n e
noncomputable def SndEs (G:Glo) (C:Oracle) (n:Nat) (es:List E):Prop:=∀ sc vars xs,mEs sc vars es xs=true→∀ X A env s Er ρ H R,EnvOk G X env sc→AOk n A→Inv G X H s.heap→Frm G X H s.heap env vars ρ →
 wEs C es ρ H R→wpAny (model G.prog G.w) A (spliced (exprArgs (concs vars es xs) env)) (λvs s'=>vs.length=es.length∧PVs G X H s R vs s') Er s
section
variable {G:Glo}{C:Oracle}{n:Nat}
theorem and2 {a b:Bool}(h:(a&&b)=true):a=true∧b=true:=Bool.and_eq_true_iff.mp h
theorem nt {b:Bool}(h:(!b)=true):b=false:=by
 cases b with
 |false=>rfl
 |true=>exact (Bool.false_ne_true h).elim
theorem mEs_star {sc:Nms}{vars:List Str}:∀ {es:List E}{xs:List Expr},mEs sc vars es xs=true→∀ x∈concs vars es xs,notStar x=true:=@λy_1=>@λy_2=>@λy_3=>@λy_4=>@λy_5=>match @y_1,@y_2,@y_3,@y_4,@y_5 with
 |[],x_1,x_2,x_3,h=>nomatch h
 |e::es,xs,h,x,hx=>by
  replace h:=and2 h
  cases hx with
  |head=>exact h.1
  |tail _ hx=>exact mEs_star (and2 h.2).2 x hx
section
variable {e:E}{sc:Nms}{vars:List Str}{ex:Expr}{X:Nat→Prop}{A:Around}{env:Env}{s:Shared}{Er:Value→Shared→Prop}{ρ:AEnv}{H:AHeap}
theorem SndE.use {R:AV→AHeap→Prop}{Q:Value→Shared→Prop}(he:SndE G C n e)(hm:mE sc vars e ex=true)(eo:EnvOk G X env sc)(ao:AOk n A)(iv:Inv G X H s.heap)(fr:Frm G X H s.heap env vars ρ)(hw:wE C e ρ H R)
  (k:∀ v s₁ x H₁,R x H₁→St G X No H s H₁ s₁→VRel G (Fz H₁ X) s₁.heap x v→Inv G X H₁ s₁.heap→Frm G X H₁ s₁.heap env vars ρ→Q v s₁):wpAny (model G.prog G.w) A (eval (conc vars e ex) env) Q Er s:=
 wpAny_mono (he sc vars ex hm X A env s Er ρ H R eo ao iv fr hw) (λv s₁ ⟨x,H₁,q,st,r⟩=>k v s₁ x H₁ q st r st.inv (fr.st iv eo st)) λx_ x_ e=>e
theorem SndE.got {α:Type}{o:AV→AHeap→Option α}{R:AV→AHeap→α→Prop}{Q:Value→Shared→Prop}(he:SndE G C n e)(hm:mE sc vars e ex=true)(eo:EnvOk G X env sc)(ao:AOk n A)(iv:Inv G X H s.heap)(fr:Frm G X H s.heap env vars ρ)(hw:wE C e ρ H λx H=>ok (o x H) λr=>R x H r)
  (k:∀ v s₁ x H₁ r,o x H₁=some r→R x H₁ r→St G X No H s H₁ s₁→VRel G (Fz H₁ X) s₁.heap x v→Inv G X H₁ s₁.heap→Frm G X H₁ s₁.heap env vars ρ→Q v s₁):wpAny (model G.prog G.w) A (eval (conc vars e ex) env) Q Er s:=
 he.use hm eo ao iv fr hw λv s₁ x H₁ q st r iv₁ fr₁=>let ⟨y,e,q⟩:=ok_ex q;k v s₁ x H₁ y e q st r iv₁ fr₁
theorem SndT.use {K:AV→Bool→AHeap→Prop}{Q:Bool→Shared→Prop}(he:SndT G C n e)(hm:mE sc vars e ex=true)(eo:EnvOk G X env sc)(ao:AOk n A)(iv:Inv G X H s.heap)(fr:Frm G X H s.heap env vars ρ)(hw:wE C e ρ H (λx H=>ok (truth H x) λt=>K x t H))
  (k:∀ b s₁ x H₁,truth H₁ x=some b→K x b H₁→St G X No H s H₁ s₁→Inv G X H₁ s₁.heap→Frm G X H₁ s₁.heap env vars ρ→Q b s₁):wpAny (model G.prog G.w) A (isTrue (conc vars e ex) env (eval (conc vars e ex) env)) Q Er s:=
 wpAny_mono (he sc vars ex hm X A env s Er ρ H K eo ao iv fr hw) (λv s₁ ⟨x,H₁,t,q,st⟩=>k v s₁ x H₁ t q st st.inv (fr.st iv eo st)) λx_ x_ e=>e
theorem SndEs.use {es:List E}{xs:List Expr}{R:List AV→AHeap→Prop}{Q:List Value→Shared→Prop}(he:SndEs G C n es)(hm:mEs sc vars es xs=true)(eo:EnvOk G X env sc)(ao:AOk n A)(iv:Inv G X H s.heap)(fr:Frm G X H s.heap env vars ρ)(hw:wEs C es ρ H R)
  (k:∀ vs s₁ ys H₁,R ys H₁→vs.length=es.length→St G X No H s H₁ s₁→VRels G (Fz H₁ X) s₁.heap ys vs→Inv G X H₁ s₁.heap→Frm G X H₁ s₁.heap env vars ρ→Q vs s₁):wpAny (model G.prog G.w) A (spliced (exprArgs (concs vars es xs) env)) Q Er s:=
 wpAny_mono (he sc vars xs hm X A env s Er ρ H R eo ao iv fr hw) (λv s₁ ⟨hl,ys,H₁,q,st,r⟩=>k v s₁ ys H₁ q hl st r st.inv (fr.st iv eo st)) λx_ x_ e=>e
end
theorem sndEs {es:List E}(h:∀ e∈es,SndE G C n e):SndEs G C n es:=by
 induction es with
 |nil=>exact λsc vars xs hm X A env s Er ρ H R eo ao iv fr hw=>Calls.spliced_nil ⟨rfl,[],H,hw,St.start iv,.nil⟩
 |cons e es ih=>
  intro sc vars xs hm X A env s Er ρ H R eo ao iv fr hw
  replace hm:=(and2 hm).2
  refine Calls.spliced_cons ((h e (.head _)).use (and2 hm).1 eo ao iv fr hw λv s₁ y H₁ q st r iv₁ fr₁=>?_)
  exact (ih λe' he'=>h e' (.tail _ he')).use (and2 hm).2 eo ao iv₁ fr₁ q λvs s₂ ys H₂ q₂ hl st₂ rs iv₂ fr₂=>⟨congrArg Nat.succ hl,y::ys,H₂,q₂,st.trans st₂,.cons (r.st st₂) rs⟩
end
noncomputable def plainTest (e:Expr):Bool:=match e with
 |.UnaryOp o _ _=>!(o.ctorIdx==1)
 |e=>!(e.ctorIdx==0||(e.ctorIdx==5||e.ctorIdx==15))
theorem isTrue_plain {e:Expr}(h:plainTest e=true)(env:Env)(whole:Sem Value):isTrue e env whole=(do let v ← whole;standAt e.pos;holding [v] (truthy v)):=by
 cases e with
 |UnaryOp o x p=>cases o<;>first|rfl|exact (Bool.false_ne_true h).elim
 |_=>first|rfl|exact (Bool.false_ne_true h).elim
theorem base_eq {v:Expr}(h:notCall0 v=true)(a:Str)(env:Env)(w:Sem Value):attributeBase v a env w=w:=by
 cases v with
 |Call f as ks p=>exact (Bool.false_ne_true h).elim
 |_=>rfl
section
variable {G:Glo}{C:Oracle}{n:Nat}
theorem snd_of {e:E}(gk:GOk G)(hE:SndE G C n e)(hp:∀ vars ex,plainTest (conc vars e ex)=true):Snd G C n e:=by
 refine⟨hE,λsc vars ex hm X A env s Er ρ H K eo ao iv fr hw=>?_⟩
 refine wpAny_isTrue_value (hE.got hm eo ao iv fr hw λv s₁ x H₁ t ht q st r iv₁ fr₁=>?_) (isTrue_plain (hp vars ex) env _)
 exact truth_ok gk iv₁ r ht λt'=>⟨x,H₁,ht,q,st.toks t'⟩
theorem snd_dead:Snd G C n .dead:=⟨λsc vars ex hm X A env s Er ρ H R eo ao iv fr hw=>False.elim hw,λsc vars ex hm X A env s Er ρ H R eo ao iv fr hw=>False.elim hw⟩
theorem varIs_s {vars:List Str}{k:Nat}{x:Str}(h:varIs vars k x=true):vars[k]? = some x∧(x==("__debug__" : Str))=false:=
 (and2 h).imp eq_of_beq nt
theorem snd_v (gk:GOk G)(k:Nat):Snd G C n (.v k):=by
 refine snd_of gk (λsc vars ex hm X A env s Er ρ H R eo ao iv fr hw=>?_) λvars ex=>rfl
 obtain⟨h1,h2⟩:=varIs_s (and2 hm).1
 obtain⟨y,hy,q⟩:=ok_ex hw
 exact wpAny_Name (loadVar (pos:=ex.pos) eo fr h1 hy λv r=>⟨y,H,q,St.start iv,r⟩) h2
theorem snd_none (gk:GOk G):Snd G C n .none:=
 snd_of gk (λsc vars ex hm X A env s Er ρ H R eo ao iv fr hw=>wpAny_Constant_none ⟨_,H,hw,St.start iv,.none⟩) λvars ex=>rfl
theorem snd_bool (gk:GOk G)(b:Bool):Snd G C n (.bool b):=
 snd_of gk (λsc vars ex hm X A env s Er ρ H R eo ao iv fr hw=>wpAny_Constant_bool ⟨_,H,hw,St.start iv,.bool b⟩) λvars ex=>rfl
theorem snd_str (gk:GOk G)(x:String):Snd G C n (.str x):=
 snd_of gk (λsc vars ex hm X A env s Er ρ H R eo ao iv fr hw=>wpAny_Constant_str ⟨_,H,hw,(St.start iv).toks _,.str x _⟩) λvars ex=>rfl
theorem snd_int (gk:GOk G)(i:Int):Snd G C n (.int i):=by
 cases i with
 |ofNat k=>exact snd_of gk (λsc vars ex hm X A env s Er ρ H R eo ao iv fr hw=>λx_ x_ x_=>⟨_,H,hw,(St.start iv).toks _,.int _ _⟩) λvars ex=>rfl
 |negSucc k=>
  refine snd_of gk (λsc vars ex hm X A env s Er ρ H R eo ao iv fr hw=>?_) λvars ex=>rfl
  refine wpAny_UnaryOp (x:=.Constant (.int (.ofNat (k+1))) (kN (kid ex 0)) (kid ex 0).pos) ?_
  have one:∀ {Q:Value→Shared→Prop},Q (.int (.ofNat (k+1)) s.toks) { s with toks:=s.toks+1 }→wpAny (model G.prog G.w) A (eval (.Constant (.int (.ofNat (k+1))) (kN (kid ex 0)) (kid ex 0).pos) env) Q Er s:=λh x_ x_ x_=>h
  exact one (PyProof.Rows.neg_int ⟨_,H,hw,(St.start iv).toks _,.int _ _⟩)
theorem snd_glob (gk:GOk G)(k:Nat):Snd G C n (.glob k):=by
 refine snd_of gk (λsc vars ex hm X A env s Er ρ H R eo ao iv fr hw=>?_) λvars ex=>rfl
 obtain⟨v,hv,r⟩:=gk.glob k
 exact loadG gk eo iv hm hv ⟨_,H,hw,St.start iv,r.ofBase iv⟩
theorem fld_s {c k:Nat}(h:decide (k < (flds c).length)=true):(flds c)[k]? = some (fldN c k):=by
 unfold fldN
 refine rwI (List.getElem?_eq_getElem (of_decide_eq_true h)) ?_;rfl
theorem snd_attr (gk:GOk G){e:E}(c k:Nat)(he:SndE G C n e):Snd G C n (.attr e c k):=by
 refine snd_of gk (λsc vars ex hm X A env s Er ρ H R eo ao iv fr hw=>?_) λvars ex=>rfl
 obtain⟨h1,hm⟩:=and2 hm
 obtain⟨hn,hf⟩:=and2 hm
 refine Attribute_any_ (he.got h1 eo ao iv fr hw λu s₁ y H₁ r hr q st ru iv₁ fr₁=>?_) (by (refine rwI (arm_eval_Attribute ..) ?_;rewrite [base_eq hn];rfl))
 exact attr_ok gk iv₁ (fld_s hf) ru hr λw t rw'=>⟨r,H₁,q,st.toks t,rw'⟩
theorem snd_idx (gk:GOk G){e i:E}(he:SndE G C n e)(hi:SndE G C n i):Snd G C n (.idx e i):=by
 refine snd_of gk (λsc vars ex hm X A env s Er ρ H R eo ao iv fr hw=>?_) λvars ex=>rfl
 obtain⟨h1,hm⟩:=and2 hm
 obtain⟨h2,hn⟩:=and2 hm
 refine Subscript_ (he.use h1 eo ao iv fr hw λu s₁ y H₁ q st ru iv₁ fr₁=>?_)
 refine hi.got h2 eo ao iv₁ fr₁ q λw s₂ z H₂ r hr q₂ st₂ rw' iv₂ fr₂=>?_
 exact sub_ok iv₂ (ru.st st₂) rw' hr hn λx t rx=>⟨r,H₂,q₂,(st.trans st₂).toks t,rx⟩
theorem snd_bin (gk:GOk G)(op:Bin){a b:E}(ha:SndE G C n a)(hb:SndE G C n b):Snd G C n (.bin op a b):=by
 refine snd_of gk (λsc vars ex hm X A env s Er ρ H R eo ao iv fr hw=>?_) λvars ex=>rfl
 obtain⟨h1,h2⟩:=and2 hm
 refine wpAny_BinOp (ha.use h1 eo ao iv fr hw λu s₁ y H₁ q st ru iv₁ fr₁=>?_)
 refine hb.got h2 eo ao iv₁ fr₁ q λw s₂ z H₂ x hx q₂ st₂ rw' iv₂ fr₂=>?_
 exact bin_ok iv₂ (ru.st st₂) rw' hx λw' s₃ st₃ r₃=>⟨x,H₂,q₂,(st.trans st₂).trans st₃,r₃⟩
end
section
variable {G:Glo}{C:Oracle}{n:Nat}
theorem snd_ofC {e:E}{op:CmpOp}(gk:GOk G)(hs:∀ vars ex,∃ x y p,conc vars e ex=.Compare x [op] [y] p∧∀ sc,mE sc vars e ex=true→behindInMarks op y=false ∧
   ∀ X A env s Er ρ H R,EnvOk G X env sc→AOk n A→Inv G X H s.heap→Frm G X H s.heap env vars ρ→wE C e ρ H R →
    wpAny (model G.prog G.w) A (eval x env) (λa s₁=>wpAny (model G.prog G.w) A (eval y env) (λb s₂=>wpAny (model G.prog G.w) A (compareOp op a b) (PV G X H s R) Er s₂) Er s₁) Er s):Snd G C n e:=by
 refine⟨λsc vars ex hm X A env s Er ρ H R eo ao iv fr hw=>?_,λsc vars ex hm X A env s Er ρ H K eo ao iv fr hw=>?_⟩
 ·obtain⟨x,y,p,e,h⟩:=hs vars ex
  obtain⟨hb,hc⟩:=h sc hm
  refine rwI e ?_
  exact wpAny_Compare1 (hc X A env s Er ρ H R eo ao iv fr hw) hb
 ·obtain⟨x,y,p,e,h⟩:=hs vars ex
  obtain⟨hb,hc⟩:=h sc hm
  refine rwI e ?_
  refine wpAny_isTrue_Compare1 (wpAny_mono (hc X A env s Er ρ H _ eo ao iv fr hw) (λa s₁ h₁=>wpAny_mono h₁ (λb s₂ h₂=>wpAny_mono h₂ (λc s₃ pv1=>?_) λx_ x_ e=>e) λx_ x_ e=>e) λx_ x_ e=>e) hb
  obtain⟨x,H₁,qk2,st,rx⟩:=pv1
  obtain⟨t,ht,q⟩:=ok_ex qk2
  exact truth_ok gk st.inv rx ht λt'=>⟨x,H₁,ht,q,st.toks t'⟩
theorem two {sc:Nms}{vars:List Str}{a b:E}{l r:Expr}{X:Nat→Prop}{A:Around}{env:Env}{s:Shared}{Er:Value→Shared→Prop}{ρ:AEnv}{H:AHeap}{F:Value→Value→Shared→Prop}{P:AV→AV→AHeap→Prop}
  (ha:SndE G C n a) (hb:SndE G C n b) (h1:mE sc vars a l=true) (h2:mE sc vars b r=true) (eo:EnvOk G X env sc) (ao:AOk n A) (iv:Inv G X H s.heap) (fr:Frm G X H s.heap env vars ρ)
  (hw:wE C a ρ H λx H=>wE C b ρ H λy H=>P x y H)
  (k:∀ u w x y H₂ s₂,P x y H₂→St G X No H s H₂ s₂→VRel G (Fz H₂ X) s₂.heap x u→VRel G (Fz H₂ X) s₂.heap y w→F u w s₂) :
  wpAny (model G.prog G.w) A (eval (conc vars a l) env) (λu s₁=>wpAny (model G.prog G.w) A (eval (conc vars b r) env) (λw s₂=>F u w s₂) Er s₁) Er s:=
 ha.use h1 eo ao iv fr hw λu s₁ x H₁ q st ru iv₁ fr₁=>hb.use h2 eo ao iv₁ fr₁ q λw s₂ y H₂ q₂ st₂ rw' x_ x_=>k u w x y H₂ s₂ q₂ (st.trans st₂) (ru.st st₂) rw'
theorem snd_cmp (gk:GOk G)(op:Cm){a b:E}(ha:SndE G C n a)(hb:SndE G C n b):Snd G C n (.cmp op a b):=by
 refine snd_ofC gk λvars ex=>⟨_,_,_,rfl,λsc hm=>⟨nt (and2 (and2 hm).2).2,λX A env s Er ρ H R eo ao iv fr hw=>?_⟩⟩
 refine two ha hb (and2 hm).1 (and2 (and2 hm).2).1 eo ao iv fr hw λu w x y H₂ s₂ qm5 st ru rw'=>?_
 obtain⟨c,hc,q⟩:=ok_ex qm5
 exact cm_ok ao st.inv ru rw' hc λt=>⟨_,H₂,q,st.toks t,.bool c⟩
theorem seq_of {X:Nat→Prop}{H:AHeap}{s:Shared}{x:AV}{v:Value}{p:List AV×Option Nat}(iv:Inv G X H s.heap)(r:VRel G (Fz H X) s.heap x v)(h:lstOf H x=some p) :
  ∃ a vs k,v=.ref a∧s.heap.get? a=some { cls:=.type "list",data:=.seq vs.toArray k }∧vs.length≤1048576∧VRels G (Fz H X) s.heap p.1 vs∧((p.2=some a∧H a=some (.list p.1))∨(p.2=none∧Fz H X a)):=by
 cases x with
 |lst xs=>
  obtain⟨a,vs,k,rfl,f,g,l,rs⟩:=lst_s r
  obtain rfl:=Option.some.inj h
  exact⟨a,vs,k,rfl,g,l,rs,.inr ⟨rfl,f⟩⟩
 |ref a=>
  obtain rfl:=r.ref_s
  obtain⟨xs,hH,rfl⟩:=lstO_s h
  obtain⟨vs,k,g,l,rs⟩:=iv.objs _ _ hH
  exact⟨a,vs,k,rfl,g,l,rs,.inl ⟨rfl,hH⟩⟩
 |_=>exact none_some h
theorem snd_eqNil (gk:GOk G){e:E}(he:SndE G C n e):Snd G C n (.eqNil e):=by
 refine snd_ofC gk λvars ex=>⟨_,_,_,rfl,λsc hm=>⟨rfl,λX A env s Er ρ H R eo ao iv fr hw=>?_⟩⟩
 refine he.got hm eo ao iv fr hw λu s₁ x H₁ p' hp q' st ru iv₁ fr₁=>?_
 refine wpAny_List (Calls.spliced_nil ⟨Nat.zero_le _,?_⟩)
 have un:=ao.un
 have hc:cLine=9900:=rfl
 have st':St G X No H s H₁ { s₁ with heap:=s₁.heap.push { cls:=.type "list",data:=.seq [].toArray } }:=st.trans ⟨iv₁.grow (push_keeps _ _),Steps.grow (push_keeps _ _),⟨rfl,rfl⟩⟩
 obtain⟨a,vs,k,rfl,g,_,rs,_⟩:=seq_of iv₁ ru hp
 have hl1:IsL (s₁.heap.push { cls:=.type "list",data:=.seq [].toArray }) a vs.toArray k:=push_keeps _ _ _ _ g
 have hl2:IsL (s₁.heap.push { cls:=.type "list",data:=.seq [].toArray }) s₁.heap.objs.size #[] 0:=IsL.new _ _
 have len:=rs.length
 replace q':R (.bool p'.1.isEmpty) H₁:=q'
 cases vs with
 |nil=>
  rw[List.length_eq_zero_iff.mp len.symm] at q'
  exact P.eq_list (e:=λx_=>true) (s:={ s₁ with heap:=s₁.heap.push { cls:=.type "list",data:=.seq [].toArray } }) hl1 hl2 rfl (λj h1 h2=>absurd h2 (Nat.not_lt_zero _)) (by lia) ⟨_,H₁,q',st',.bool true⟩
 |cons v vs=>
  have e:p'.1.isEmpty=false:=by
   cases q:p'.1 with
   |nil=>rw[q] at len;exact nomatch len
   |cons _ _=>rfl
  rw[e] at q'
  exact P.eq_list_lengths (s:={ s₁ with heap:=s₁.heap.push { cls:=.type "list",data:=.seq [].toArray } }) hl1 hl2 rfl (by lia) ⟨_,H₁,q',st',.bool false⟩
end
section
variable {G:Glo}{C:Oracle}{n:Nat}
theorem asSet_s {X:Nat→Prop}{H:AHeap}{s:Shared}{x:AV}{v:Value}{m:Int→Bool}(iv:Inv G X H s.heap)(r:VRel G (Fz H X) s.heap x v)(h:asSet H x=some m) :
  ∃ a,x=.ref a∧v=.ref a∧H a=some (.set m)∧SetRel G s.heap a m:=by
 cases x with
 |ref a=>have hH:=setO_s h;exact⟨a,rfl,r.ref_s,hH,iv.objs _ _ hH⟩
 |_=>exact none_some h
theorem snd_setLe (gk:GOk G){a b:E}(ha:SndE G C n a)(hb:SndE G C n b):Snd G C n (.setLe a b):=by
 refine snd_ofC gk λvars ex=>⟨_,_,_,rfl,λsc hm=>⟨nt (and2 (and2 hm).2).2,λX A env s Er ρ H R eo ao iv fr hw=>?_⟩⟩
 refine two ha hb (and2 hm).1 (and2 (and2 hm).2).1 eo ao iv fr hw λu w x y H₂ s₂ q0 st ru rw'=>?_
 obtain⟨m,hm,q1⟩:=ok_ex q0
 obtain⟨m',hm',q⟩:=ok_ex q1
 obtain⟨a,rfl,rfl,_,r1⟩:=asSet_s st.inv ru hm
 obtain⟨b,rfl,rfl,_,r2⟩:=asSet_s st.inv rw' hm'
 exact le_ok ao r1 r2 λc hc=>⟨_,H₂,q c hc,st,.bool c⟩
theorem snd_setNe (gk:GOk G){a b:E}(ha:SndE G C n a)(hb:SndE G C n b):Snd G C n (.setNe a b):=by
 refine snd_ofC gk λvars ex=>⟨_,_,_,rfl,λsc hm=>⟨nt (and2 (and2 hm).2).2,λX A env s Er ρ H R eo ao iv fr hw=>?_⟩⟩
 refine two ha hb (and2 hm).1 (and2 (and2 hm).2).1 eo ao iv fr hw λu w x y H₂ s₂ q0 st ru rw'=>?_
 obtain⟨m,hm,q1⟩:=ok_ex q0
 obtain⟨m',hm',q⟩:=ok_ex q1
 obtain⟨a,rfl,rfl,_,r1⟩:=asSet_s st.inv ru hm
 obtain⟨b,rfl,rfl,_,r2⟩:=asSet_s st.inv rw' hm'
 exact ne_ok ao r1 r2 λc hc=>⟨_,H₂,q c hc,st,.bool c⟩
theorem strKeys_s {ks:List String}{x:AV}{c:Bool}(h:strKeysHas ks x=some c):∃ y,x=.str y∧ks.contains y=c:=by
 cases x with
 |str y=>exact⟨y,rfl,Option.some.inj h⟩
 |_=>exact none_some h
theorem snd_inG (gk:GOk G)(neg:Bool){e:E}(k:Nat)(he:SndE G C n e):Snd G C n (.inG neg e k):=by
 refine snd_ofC (op:=if neg then .NotIn else .In) gk λvars ex=>⟨_,_,_,rfl,λsc hm=>⟨rfl,λX A env s Er ρ H R eo ao iv fr hw=>?_⟩⟩
 refine he.got (and2 hm).1 eo ao iv fr hw λu s₁ x H₁ c hc q' st ru iv₁ fr₁=>?_
 obtain⟨a,f,ha,hna,hf0,hf⟩:=gk.dict k
 refine loadG gk eo iv₁ (and2 hm).2 ha ?_
 obtain⟨y,rfl,hy⟩:=strKeys_s hc
 obtain⟨t,rfl⟩:=ru.str_s
 have hm':s₁.heap.MapOf (strKind G.prog G.w) a f:=hf0.imp λo h=>h.imp λes h=>h.imp λep h=>⟨iv₁.keeps0 _ _ h.1,h.2⟩
 have e:(f (S' y)).isSome=c:=(hf y).trans hy
 have hkey:(strKind G.prog G.w).is (S' y) (.str (S' y) t)=true:=beq_self_eq_true (S' y)
 replace q':R (.bool (c != neg)) H₁:=q'
 cases neg with
 |false=>
  rw[show (c != false)=c by cases c<;>rfl] at q'
  exact wpAny_in_of hkey hna hm' (by refine rwI e ?_;exact⟨_,H₁,q',st.toks _,.bool c⟩)
 |true=>
  rw[show (c != true) = !c by cases c<;>rfl] at q'
  exact wpAny_notIn_of hkey hna hm' (by refine rwI e ?_;exact⟨_,H₁,q',st.toks _,.bool _⟩)
theorem snd_not (gk:GOk G){e:E}(he:Snd G C n e):Snd G C n (.not e):=by
 refine⟨λsc vars ex hm X A env s Er ρ H R eo ao iv fr hw=>?_,λsc vars ex hm X A env s Er ρ H K eo ao iv fr hw=>?_⟩
 ·refine wpAny_UnaryOp (he.1.got hm eo ao iv fr hw λu s₁ y H₁ t ht q st ru iv₁ fr₁=>?_)
  unfold unaryOp
  refine wpAny_holding ?_
  refine (?_:wpAny _ _ (truthy u >>= λc=>pure (Value.bool (!c))) _ _ _)
  exact wpAny_bind (truth_ok gk iv₁ ru ht λt'=>wpAny_pure ⟨_,H₁,q,st.toks t',.bool _⟩)
 ·exact wpAny_isTrue_Not (he.2.use (K:=λx t H=>K (.bool (!t)) (!t) H) hm eo ao iv fr hw λt s₁ x H₁ ht q st x_ x_=>⟨.bool (!t),H₁,rfl,q,st⟩)
theorem PT.from {X:Nat→Prop}{H₀ H₁:AHeap}{s₀ s₁ s₂:Shared}{K:AV→Bool→AHeap→Prop}{b:Bool}(st:St G X No H₀ s₀ H₁ s₁)(p:PT G X H₁ s₁ K b s₂):PT G X H₀ s₀ K b s₂:=
 let ⟨x,H,t,q,st'⟩:=p;⟨x,H,t,q,st.trans st'⟩
theorem snd_ife (gk:GOk G){t a b:E}(ht:SndT G C n t)(ha:Snd G C n a)(hb:Snd G C n b):Snd G C n (.ife t a b):=by
 refine⟨λsc vars ex hm X A env s Er ρ H R eo ao iv fr hw=>?_,λsc vars ex hm X A env s Er ρ H K eo ao iv fr hw=>?_⟩
 ·refine wpAny_IfExp (ht.use (K:=λx_ t H=>match t with|true=>wE C a ρ H R|false=>wE C b ρ H R) (and2 hm).1 eo ao iv fr hw λc s₁ x H₁ x_ q st iv₁ fr₁=>?_)
  cases c with
  |true=>
   refine rwI (if_pos rfl) ?_
   exact wpAny_mono (ha.1 sc vars _ (and2 (and2 hm).2).1 X A env s₁ Er ρ H₁ R eo ao iv₁ fr₁ q) (λx_ x_ p=>p.from st) λx_ x_ e=>e
  |false=>
   refine rwI (if_neg Bool.false_ne_true) ?_
   exact wpAny_mono (hb.1 sc vars _ (and2 (and2 hm).2).2 X A env s₁ Er ρ H₁ R eo ao iv₁ fr₁ q) (λx_ x_ p=>p.from st) λx_ x_ e=>e
 ·refine (?_:wpAny _ _ (do if ← isTrue (conc vars t (kid ex 0)) env (eval (conc vars t (kid ex 0)) env) then isTrue (conc vars a (kid ex 1)) env (eval (conc vars a (kid ex 1)) env) else isTrue (conc vars b (kid ex 2)) env (eval (conc vars b (kid ex 2)) env)) _ _ _)
  refine wpAny_bind (ht.use (K:=λx_ t H=>match t with|true=>wE C a ρ H (λx H=>ok (truth H x) λt=>K x t H)|false=>wE C b ρ H (λx H=>ok (truth H x) λt=>K x t H)) (and2 hm).1 eo ao iv fr hw λc s₁ x H₁ x_ q st iv₁ fr₁=>?_)
  cases c with
  |true=>
   refine rwI (if_pos rfl) ?_
   exact wpAny_mono (ha.2 sc vars _ (and2 (and2 hm).2).1 X A env s₁ Er ρ H₁ K eo ao iv₁ fr₁ q) (λx_ x_ p=>p.from st) λx_ x_ e=>e
  |false=>
   refine rwI (if_neg Bool.false_ne_true) ?_
   exact wpAny_mono (hb.2 sc vars _ (and2 (and2 hm).2).2 X A env s₁ Er ρ H₁ K eo ao iv₁ fr₁ q) (λx_ x_ p=>p.from st) λx_ x_ e=>e
theorem snd_cmp2 (gk:GOk G)(o1 o2:Cm){a b c:E}(ha:SndE G C n a)(hb:SndE G C n b)(hc:SndE G C n c):Snd G C n (.cmp2 o1 o2 a b c):=by
 refine⟨λsc vars ex hm X A env s Er ρ H R eo ao iv fr hw=>?_,λsc vars ex hm X A env s Er ρ H K eo ao iv fr hw=>?_⟩
 ·obtain⟨h1,hm⟩:=and2 hm
  obtain⟨h2,hm⟩:=and2 hm
  refine Compare_chain (rs:=[]) ?_ (nt (and2 hm).2)
  refine ha.use h1 eo ao iv fr hw λu s₁ x H₁ q₁ st₁ ru iv₁ fr₁=>?_
  refine chain_link (hb.got h2 eo ao iv₁ fr₁ q₁ λw s₂ y H₂ t ht q₂ st₂ rw' iv₂ fr₂=>?_)
  refine cm_ok ao iv₂ (ru.st st₂) rw' ht λt'=>wpAny_truthy_bool ?_
  cases t with
  |false=>refine rwI (if_neg Bool.false_ne_true) ?_;exact⟨_,H₂,q₂,(st₁.trans st₂).toks t',.bool _⟩
  |true=>
   refine rwI (if_pos rfl) ?_
   refine chain_last (hc.got (s:={ s₂ with toks:=t' }) (and2 hm).1 eo ao iv₂ fr₂ q₂ λz s₃ v H₃ t ht q₃ st₃ rz iv₃ x_=>?_)
   exact cm_ok ao iv₃ (VRel.st (s₀:={ s₂ with toks:=t' }) st₃ rw') rz ht λt''=>⟨_,H₃,q₃,(((st₁.trans st₂).toks t').trans st₃).toks t'',.bool _⟩
 ·obtain⟨h1,hm⟩:=and2 hm
  obtain⟨h2,hm⟩:=and2 hm
  refine isTrue_chain (rs:=[]) ?_ (nt (and2 hm).2)
  refine ha.use h1 eo ao iv fr hw λu s₁ x H₁ q₁ st₁ ru iv₁ fr₁=>?_
  refine test_link (hb.got h2 eo ao iv₁ fr₁ q₁ λw s₂ y H₂ t ht q₂ st₂ rw' iv₂ fr₂=>?_)
  refine cm_ok ao iv₂ (ru.st st₂) rw' ht λt'=>wpAny_truthy_bool ?_
  cases t with
  |false=>refine rwI (if_neg Bool.false_ne_true) ?_;exact⟨_,H₂,rfl,q₂,(st₁.trans st₂).toks t'⟩
  |true=>
   refine rwI (if_pos rfl) ?_
   refine test_last (hc.got (s:={ s₂ with toks:=t' }) (and2 hm).1 eo ao iv₂ fr₂ q₂ λz s₃ v H₃ t ht q₃ st₃ rz iv₃ x_=>?_)
   exact cm_ok ao iv₃ (VRel.st (s₀:={ s₂ with toks:=t' }) st₃ rw') rz ht λt''=>wpAny_truthy_bool ⟨_,H₃,rfl,q₃,(((st₁.trans st₂).toks t').trans st₃).toks t''⟩
noncomputable def BoolL (G:Glo) (C:Oracle) (n:Nat) (op:BoolOp) (e:E) (sc:Nms) (vars:List Str) (xs:List Expr):Prop:=(∃ w r,xs=w::r)∧∀ pos,(∀ X A env s Er ρ H R,EnvOk G X env sc→AOk n A→Inv G X H s.heap→Frm G X H s.heap env vars ρ →
  wE C e ρ H R→wpAny (model G.prog G.w) A (eval (.BoolOp op xs pos) env) (PV G X H s R) Er s) ∧
 (∀ X A env s Er ρ H K,EnvOk G X env sc→AOk n A→Inv G X H s.heap→Frm G X H s.heap env vars ρ →
  wE C e ρ H (λx H=>ok (truth H x) λt=>K x t H)→wpAny (model G.prog G.w) A (allTrue op xs env) (PT G X H s K) Er s)
noncomputable def SndL (G:Glo) (C:Oracle) (n:Nat) (op:BoolOp) (io:E→Bool) (e:E):Prop:=∀ sc vars ex ks,mE sc vars e ex=true→(two2 ks||io e)=true→BoolL G C n op e sc vars (flatB ks (conc vars e ex))
abbrev SndAnd (G:Glo)(C:Oracle)(n:Nat)(e:E):Prop:=SndL G C n .And isAndE e
abbrev SndOr (G:Glo)(C:Oracle)(n:Nat)(e:E):Prop:=SndL G C n .Or isOrE e
theorem and_one {e:E}(he:Snd G C n e){sc:Nms}{vars:List Str}{ex:Expr}(h:mE sc vars e ex=true):BoolL G C n .And e sc vars [conc vars e ex]:=by
 refine⟨⟨_,_,rfl⟩,λpos=>⟨λX A env s Er ρ H R eo ao iv fr hw=>BoolOp_one (he.1 sc vars ex h X A env s Er ρ H R eo ao iv fr hw),λX A env s Er ρ H K eo ao iv fr hw=>?_⟩⟩
 refine wpAny_allTrue_And_cons (wpAny_mono (he.2 sc vars ex h X A env s Er ρ H K eo ao iv fr hw) (λt s₁ p=>?_) λx_ x_ e=>e)
 cases t with
 |true=>exact wpAny_allTrue_And_nil p
 |false=>exact p
theorem or_one {e:E}(he:Snd G C n e){sc:Nms}{vars:List Str}{ex:Expr}(h:mE sc vars e ex=true):BoolL G C n .Or e sc vars [conc vars e ex]:=by
 refine⟨⟨_,_,rfl⟩,λpos=>⟨λX A env s Er ρ H R eo ao iv fr hw=>BoolOp_one (he.1 sc vars ex h X A env s Er ρ H R eo ao iv fr hw),λX A env s Er ρ H K eo ao iv fr hw=>?_⟩⟩
 refine wpAny_allTrue_Or_cons (wpAny_mono (he.2 sc vars ex h X A env s Er ρ H K eo ao iv fr hw) (λt s₁ p=>?_) λx_ x_ e=>e)
 cases t with
 |true=>exact p
 |false=>exact wpAny_allTrue_Or_nil p
theorem and_step {a b:E}(gk:GOk G)(ha:Snd G C n a){sc:Nms}{vars:List Str}{ex:Expr}{xs:List Expr}(hb:BoolL G C n .And b sc vars xs)(h1:mE sc vars a ex=true):BoolL G C n .And (.and a b) sc vars (conc vars a ex::xs):=by
 obtain⟨⟨w,r,rfl⟩,hb⟩:=hb
 refine⟨⟨_,_,rfl⟩,λpos=>⟨λX A env s Er ρ H R eo ao iv fr hw=>?_,λX A env s Er ρ H K eo ao iv fr hw=>?_⟩⟩
 ·refine BoolOp_and (ha.1.got h1 eo ao iv fr hw λu s₁ x H₁ t ht q st ru iv₁ fr₁=>?_)
  refine truth_ok gk iv₁ ru ht λt'=>?_
  cases t with
  |true=>
   refine rwI (if_pos rfl) ?_
   exact wpAny_mono ((hb pos).1 X A env { s₁ with toks:=t' } Er ρ H₁ R eo ao iv₁ fr₁ q) (λx_ x_ p=>p.from (st.toks t')) λx_ x_ e=>e
  |false=>refine rwI (if_neg Bool.false_ne_true) ?_;exact⟨x,H₁,q,st.toks t',ru⟩
 ·refine wpAny_allTrue_And_cons (ha.2.use (K:=λx t H=>match t with|true=>wE C b ρ H (λx H=>ok (truth H x) λt=>K x t H)|false=>ok (truth H x) λt=>K x t H) h1 eo ao iv fr hw λt s₁ x H₁ ht q st iv₁ fr₁=>?_)
  cases t with
  |true=>
   refine rwI (if_pos rfl) ?_
   exact wpAny_mono ((hb pos).2 X A env s₁ Er ρ H₁ K eo ao iv₁ fr₁ q) (λx_ x_ p=>p.from st) λx_ x_ e=>e
  |false=>
   refine rwI (if_neg Bool.false_ne_true) ?_
   obtain⟨t',e,q⟩:=ok_ex q
   rw[ht] at e;(replace e:=Option.some.inj e;subst e)
   exact⟨x,H₁,ht,q,st⟩
theorem or_step {a b:E}(gk:GOk G)(ha:Snd G C n a){sc:Nms}{vars:List Str}{ex:Expr}{xs:List Expr}(hb:BoolL G C n .Or b sc vars xs)(h1:mE sc vars a ex=true):BoolL G C n .Or (.or a b) sc vars (conc vars a ex::xs):=by
 obtain⟨⟨w,r,rfl⟩,hb⟩:=hb
 refine⟨⟨_,_,rfl⟩,λpos=>⟨λX A env s Er ρ H R eo ao iv fr hw=>?_,λX A env s Er ρ H K eo ao iv fr hw=>?_⟩⟩
 ·refine BoolOp_or (ha.1.got h1 eo ao iv fr hw λu s₁ x H₁ t ht q st ru iv₁ fr₁=>?_)
  refine truth_ok gk iv₁ ru ht λt'=>?_
  cases t with
  |true=>refine rwI (if_pos rfl) ?_;exact⟨x,H₁,q,st.toks t',ru⟩
  |false=>
   refine rwI (if_neg Bool.false_ne_true) ?_
   exact wpAny_mono ((hb pos).1 X A env { s₁ with toks:=t' } Er ρ H₁ R eo ao iv₁ fr₁ q) (λx_ x_ p=>p.from (st.toks t')) λx_ x_ e=>e
 ·refine wpAny_allTrue_Or_cons (ha.2.use (K:=λx t H=>match t with|true=>ok (truth H x) λt=>K x t H|false=>wE C b ρ H (λx H=>ok (truth H x) λt=>K x t H)) h1 eo ao iv fr hw λt s₁ x H₁ ht q st iv₁ fr₁=>?_)
  cases t with
  |true=>
   refine rwI (if_pos rfl) ?_
   obtain⟨t',e,q⟩:=ok_ex q
   rw[ht] at e;(replace e:=Option.some.inj e;subst e)
   exact⟨x,H₁,ht,q,st⟩
  |false=>
   refine rwI (if_neg Bool.false_ne_true) ?_
   exact wpAny_mono ((hb pos).2 X A env s₁ Er ρ H₁ K eo ao iv₁ fr₁ q) (λx_ x_ p=>p.from st) λx_ x_ e=>e
theorem snd_and (gk:GOk G){a b:E}(ha:Snd G C n a)(hb:SndAnd G C n b):Snd G C n (.and a b):=
 ⟨λsc vars ex hm X A env s Er ρ H R eo ao iv fr hw=>((and_step gk ha (hb sc vars _ (kids ex) (and2 (and2 hm).2).1 (and2 (and2 hm).2).2) (and2 hm).1).2 ex.pos).1 X A env s Er ρ H R eo ao iv fr hw,
  λsc vars ex hm X A env s Er ρ H K eo ao iv fr hw=>wpAny_isTrue_BoolOp (((and_step gk ha (hb sc vars _ (kids ex) (and2 (and2 hm).2).1 (and2 (and2 hm).2).2) (and2 hm).1).2 ex.pos).2 X A env s Er ρ H K eo ao iv fr hw)⟩
theorem snd_or (gk:GOk G){a b:E}(ha:Snd G C n a)(hb:SndOr G C n b):Snd G C n (.or a b):=
 ⟨λsc vars ex hm X A env s Er ρ H R eo ao iv fr hw=>((or_step gk ha (hb sc vars _ (kids ex) (and2 (and2 hm).2).1 (and2 (and2 hm).2).2) (and2 hm).1).2 ex.pos).1 X A env s Er ρ H R eo ao iv fr hw,
  λsc vars ex hm X A env s Er ρ H K eo ao iv fr hw=>wpAny_isTrue_BoolOp (((or_step gk ha (hb sc vars _ (kids ex) (and2 (and2 hm).2).1 (and2 (and2 hm).2).2) (and2 hm).1).2 ex.pos).2 X A env s Er ρ H K eo ao iv fr hw)⟩
theorem sndL_of {op:BoolOp}{io:E→Bool}{e:E}(h1:∀ sc vars ex,mE sc vars e ex=true→BoolL G C n op e sc vars [conc vars e ex])(h2:io e=true→∀ sc vars ex,mE sc vars e ex=true→BoolL G C n op e sc vars (kids (conc vars e ex))):SndL G C n op io e:=by
 intro sc vars ex ks hm hk
 unfold flatB
 cases q:two2 ks with
 |true=>exact h1 sc vars ex hm
 |false=>rw[q] at hk;exact h2 hk sc vars ex hm
theorem sndAnd_no {e:E}(he:Snd G C n e)(h:isAndE e=false):SndAnd G C n e:=sndL_of (λx_ x_ x_ hm=>and_one he hm) λhi=>(Bool.false_ne_true (h.symm.trans hi)).elim
theorem sndOr_no {e:E}(he:Snd G C n e)(h:isOrE e=false):SndOr G C n e:=sndL_of (λx_ x_ x_ hm=>or_one he hm) λhi=>(Bool.false_ne_true (h.symm.trans hi)).elim
theorem sndAnd_of {a b:E}(gk:GOk G)(he:Snd G C n (.and a b))(ha:Snd G C n a)(hb:SndAnd G C n b):SndAnd G C n (.and a b):=
 sndL_of (λx_ x_ x_ hm=>and_one he hm) λx_ sc vars ex hm=>and_step gk ha (hb sc vars _ (kids ex) (and2 (and2 hm).2).1 (and2 (and2 hm).2).2) (and2 hm).1
theorem sndOr_of {a b:E}(gk:GOk G)(he:Snd G C n (.or a b))(ha:Snd G C n a)(hb:SndOr G C n b):SndOr G C n (.or a b):=
 sndL_of (λx_ x_ x_ hm=>or_one he hm) λx_ sc vars ex hm=>or_step gk ha (hb sc vars _ (kids ex) (and2 (and2 hm).2).1 (and2 (and2 hm).2).2) (and2 hm).1
end
section
variable {G:Glo}{X:Nat→Prop}{H H₀:AHeap}{A:Around}{Er:Value→Shared→Prop}{s s₀:Shared}{n:Nat}{env:Env}{sc:Nms}{vars:List Str}{ρ:AEnv}{R:AV→AHeap→Prop}{O:Nat→Prop}
theorem St.new {h':Heap}{t a:Nat}{o':AObj}(st:St G X O H₀ s₀ H s)(la:mainGlobals < a)(ha:s.heap.get? a=none)(hk:∀ b o,s.heap.get? b=some o→h'.get? b=some o)(ho:ObjRel G (Fz (upd H a o') X) h' a o') :
  St G X O H₀ s₀ (upd H a o') { s with heap:=h',toks:=t }:=
 ⟨st.inv.alloc la ha hk ho,st.steps.trans (Steps.alloc ha hk),st.same.trans ⟨rfl,rfl⟩⟩
theorem St.grow {h':Heap}{t:Nat}(st:St G X O H₀ s₀ H s)(hk:∀ b o,s.heap.get? b=some o→h'.get? b=some o):St G X O H₀ s₀ H { s with heap:=h',toks:=t }:=
 ⟨st.inv.grow hk,st.steps.trans (Steps.grow hk),st.same.trans ⟨rfl,rfl⟩⟩
theorem VRels.keeps {h h':Heap}{x:List AV}{v:List Value}(r:VRels G (Fz H X) h x v)(hk:∀ b o,h.get? b=some o→h'.get? b=some o):VRels G (Fz H X) h' x v:=r.mono λb o f e=>⟨hk b o e,f⟩
theorem VRels.news {h h':Heap}{a:Nat}{o':AObj}{x:List AV}{v:List Value}(r:VRels G (Fz H X) h x v)(ha:h.get? a=none)(hk:∀ b o,h.get? b=some o→h'.get? b=some o):VRels G (Fz (upd H a o') X) h' x v:=
 r.mono λb o f e=>⟨hk b o e,(upd_ne _ (by rintro rfl;rw[ha] at e;exact none_some e)).trans f.1,f.2⟩
theorem newL_ok {frz:Bool}{xs:List AV}{vs:List Value}{a t k:Nat}{h':Heap}(gk:GOk G)(st:St G X No H₀ s₀ H s)(hw:newL frz xs H R)(ha:s.heap.get? a=none)(la:mainGlobals < a)
  (hk:∀ b o,s.heap.get? b=some o→h'.get? b=some o) (g:h'.get? a=some { cls:=.type "list",data:=.seq vs.toArray k }) (rs:VRels G (Fz H X) s.heap xs vs) (hl:vs.length≤1048576) :
  PV G X H₀ s₀ R (.ref a) { s with heap:=h',toks:=t }:=by
 have fr:=st.inv.free ha
 cases frz with
 |true=>exact⟨.lst xs,H,hw,st.grow hk,.lst fr g hl (rs.keeps hk)⟩
 |false=>exact⟨.ref a,_,hw a fr.1,st.new la ha hk ⟨vs,k,g,hl,rs.news ha hk⟩,.ref a⟩
end
section
variable {G:Glo}{C:Oracle}{n:Nat}
theorem snd_tup (gk:GOk G){es:List E}(h:SndEs G C n es):Snd G C n (.tup es):=by
 refine snd_of gk (λsc vars ex hm X A env s Er ρ H R eo ao iv fr hw=>?_) λvars ex=>rfl
 obtain⟨h1,h2⟩:=and2 hm
 have h2:=of_decide_eq_true h2
 refine wpAny_Tuple ?_
 refine rwI (back_eq (mEs_star h1)) ?_
 refine h.use h1 eo ao iv fr hw λvs s₁ xs H₁ q hl st rs iv₁ x_=>⟨by refine rwI sizeLine_eq ?_;lia,.tup xs,H₁,q,st.grow (push_keeps _ _),?_⟩
 exact .tup (n:=0) (iv₁.free (get?_size _)) (Heap.get?_push_size _ rfl) (by lia) (rs.keeps (push_keeps _ _))
theorem snd_lst (gk:GOk G){frz:Bool}{es:List E}(h:SndEs G C n es):Snd G C n (.lst frz es):=by
 refine snd_of gk (λsc vars ex hm X A env s Er ρ H R eo ao iv fr hw=>?_) λvars ex=>rfl
 obtain⟨h1,h2⟩:=and2 hm
 have h2:=of_decide_eq_true h2
 refine wpAny_List ?_
 refine rwI (back_eq (mEs_star h1)) ?_
 refine h.use h1 eo ao iv fr hw λvs s₁ xs H₁ q hl st rs iv₁ x_=>⟨by refine rwI sizeLine_eq ?_;lia,?_⟩
 exact newL_ok (k:=0) gk st q (get?_size _) (iv₁.size gk) (push_keeps _ _) (Heap.get?_push_size _ rfl) rs (by lia)
theorem snd_dict0 (gk:GOk G):Snd G C n .dict0:=by
 refine snd_of gk (λsc vars ex hm X A env s Er ρ H R eo ao iv fr hw=>?_) λvars ex=>rfl
 refine wpAny_Dict_empty ?_
 have fr:=iv.free (get?_size s.heap)
 refine⟨.ref _,_,hw _ fr.1,(St.start iv).new (iv.size gk) (get?_size _) (push_keeps _ _) ⟨[],?_,Nat.zero_le _,rfl,.nil⟩,.ref _⟩
 exact⟨_,#[],0,Heap.get?_push_size _ rfl,⟨rfl,rfl,rfl⟩,rfl,λe he=>absurd he (Array.not_mem_empty e),.nil,.nil⟩
noncomputable def kindB:Value→Bool:=@λy_1=>match @y_1 with
 |.builtin x_1=>true
 |.type x_1=>true
 |x_1=>false
theorem kindB_s {v:Value}(h:kindB v=true):(∃ n,v=.builtin n)∨∃ n,v=.type n:=by
 cases v with
 |builtin n=>exact .inl ⟨n,rfl⟩
 |type n=>exact .inr ⟨n,rfl⟩
 |_=>exact (Bool.false_ne_true h).elim
theorem call1 {e:E}{x:String}{v:Value}{sc:Nms}{vars:List Str}{ex:Expr}{X:Nat→Prop}{A:Around}{env:Env}{s:Shared}{Er:Value→Shared→Prop}{ρ:AEnv}{H:AHeap}{α:Type}{o:AV→AHeap→Option α}{R:AV→AHeap→α→Prop}{Q:Value→Shared→Prop}{p q:Pos}(gk:GOk G)(k:Nat)(hv:biTab[k]? = some (x,v))(he:SndE G C n e)
  (hm:(isG sc x&&(notStar (conc vars e ex)&&mE sc vars e ex))=true) (eo:EnvOk G X env sc) (ao:AOk n A) (iv:Inv G X H s.heap) (fr:Frm G X H s.heap env vars ρ) (hw:wE C e ρ H λx H=>ok (o x H) λr=>R x H r)
  (h:∀ u s₁ x H₁ r,o x H₁=some r→R x H₁ r→St G X No H s H₁ s₁→VRel G (Fz H₁ X) s₁.heap x u→Inv G X H₁ s₁.heap→wpAny (model G.prog G.w) A (call v [u]) Q Er s₁) :
  wpAny (model G.prog G.w) A (eval (.Call (.Name (S' x) p) [conc vars e ex] [] q) env) Q Er s:=by
 obtain⟨hx,hm⟩:=and2 hm
 obtain⟨ha,hm⟩:=and2 hm
 have hv:=bi_at k hv
 have h:wpAny (model G.prog G.w) A (eval (conc vars e ex) env) (λu s₁=>wpAny (model G.prog G.w) A (call v [u]) Q Er s₁) Er s:=he.got hm eo ao iv fr hw λu s₁ x H₁ r e q st ru iv₁ x_=>h u s₁ x H₁ r e q st ru iv₁
 refine wpAny_Call_Name_kw (loadB gk eo iv hx hv ?_)
 refine rwI (show backTo q (starEach [conc vars e ex] env)=[(false,eval (conc vars e ex) env)] from back_eq (xs:=[conc vars e ex]) λy hy=>by rw[List.mem_singleton] at hy;subst hy;exact ha) ?_
 rcases kindB_s (List.all_eq_true.mp (rfl:biTab.all (λp=>kindB p.2)=true) _ hv) with⟨n,rfl⟩|⟨n,rfl⟩
 ·exact Calls.callWith_builtin rfl (Calls.evalArgs_plain (Calls.spliced_cons (wpAny_mono h (λx_ x_ h₁=>Calls.spliced_nil h₁) λx_ x_ e=>e)))
 ·exact PyProof.Rows.callWith_type rfl (Calls.evalArgs_plain (Calls.spliced_cons (wpAny_mono h (λx_ x_ h₁=>Calls.spliced_nil h₁) λx_ x_ e=>e)))
theorem snd_len (gk:GOk G){e:E}(he:SndE G C n e):Snd G C n (.len e):=
 snd_of gk (λsc vars ex hm X A env s Er ρ H R eo ao iv fr hw=>call1 gk 0 rfl he hm eo ao iv fr hw λu s₁ x H₁ r hr q st ru iv₁=>len_ok iv₁ ru hr λt t'=>⟨_,H₁,q,st.toks t',.int _ _⟩) λvars ex=>rfl
theorem snd_listOf (gk:GOk G){e:E}(he:SndE G C n e):Snd G C n (.listOf e):=by
 refine snd_of gk (λsc vars ex hm X A env s Er ρ H R eo ao iv fr hw=>call1 gk 1 rfl he hm eo ao iv fr hw λu s₁ x H₁ r hr q st ru iv₁=>?_) λvars ex=>rfl
 obtain⟨a,vs,k,rfl,g,hl,rs,_⟩:=seq_of iv₁ ru hr
 exact call_list_seq a (.inl rfl) g rfl rfl (λh' c' hk g'=>⟨_,H₁,q,st.grow hk,.lst (iv₁.free (get?_size _)) g' hl (rs.keeps hk)⟩) (by simp only[List.size_toArray];refine rwI sizeLine_eq ?_;lia)
theorem small_log3 {i:Int}(h0:0≤i)(h1:i < 1000):i.natAbs.log2 < 10:=by
 have:i.natAbs < 1000:=by lia
 by_cases z:i.natAbs=0
 ·refine rwI z ?_;decide
 ·exact (Nat.log2_lt z).mpr (Nat.lt_of_lt_of_le this (by decide))
theorem snd_strOf (gk:GOk G){e:E}(he:SndE G C n e):Snd G C n (.strOf e):=by
 refine snd_of gk (λsc vars ex hm X A env s Er ρ H R eo ao iv fr hw=>call1 (o:=λx x_=>some x) (R:=λx H x_=>∃ i,x=.int i∧0≤i∧i < 1000∧R (.str (toString i)) H) gk 10 rfl he hm eo ao iv fr hw λu s₁ x H₁ r x_ q st ru iv₁=>?_) λvars ex=>rfl
 obtain⟨i,rfl,h0,h1,q⟩:=q
 obtain⟨t,rfl⟩:=ru.int_s
 exact P.str_of_int (Nat.lt_of_lt_of_le (small_log3 h0 h1) (by decide)) ⟨_,H₁,q,st.toks _,.str (toString i) _⟩
theorem snd_setOf (gk:GOk G){e:E}(he:SndE G C n e):Snd G C n (.setOf e):=by
 refine snd_of gk (λsc vars ex hm X A env s Er ρ H R eo ao iv fr hw=>call1 gk 2 rfl he hm eo ao iv fr hw λu s₁ x H₁ m hm q st ru iv₁=>?_) λvars ex=>rfl
 have ql:=q _ (iv₁.free (get?_size s₁.heap)).1
 cases x with
 |lst xs=>
  obtain⟨a,vs,k,rfl,f,g,l,rs⟩:=lst_s ru
  obtain⟨is,hi,h1,h2,h3,rfl⟩:=setL_s hm
  exact set_list_ok ao.hd g rs hi h1 h2 h3 λh' tk hk r'=>⟨_,_,ql,st.new (iv₁.size gk) (get?_size _) hk r',.ref _⟩
 |ref a=>
  obtain rfl:=ru.ref_s
  have r0:SetRel G s₁.heap a m:=iv₁.objs _ _ (setO_s hm)
  refine set_set_ok r0 λled h' hs' r'=>⟨_,_,ql,st.new (iv₁.size gk) (get?_size _) (λb o e=>?_) r',.ref _⟩
  refine rwI (hs'.2 b (by rintro rfl;rw[get?_size] at e;exact none_some e)) ?_
  exact push_keeps _ _ b o e
 |_=>exact none_some hm
theorem snd_set0 (gk:GOk G):Snd G C n .set0:=
 snd_of gk (λsc vars ex hm X A env s Er ρ H R eo ao iv fr hw=>wpAny_Call_Name_kw (loadB gk eo iv hm (v:=.type "set") (bi_at 2 rfl) (PyProof.Rows.callWith_type0 (set0_ok λled=>⟨_,_,hw _ (iv.free (get?_size s.heap)).1,(St.start iv).new (iv.size gk) (get?_size _) (push_keeps _ _) (fresh_rel _ _),.ref _⟩)))) λvars ex=>rfl
theorem isBoolV_s {x:AV}{c:Bool}(h:isBoolV x=some c):c=true∧∃ b,x=.bool b:=by
 cases x with
 |bool b=>exact⟨(Option.some.inj h).symm,b,rfl⟩
 |_=>exact none_some h
theorem snd_isBool (gk:GOk G){e:E}(he:SndE G C n e):Snd G C n (.isBool e):=by
 refine snd_of gk (λsc vars ex hm X A env s Er ρ H R eo ao iv fr hw=>?_) λvars ex=>rfl
 obtain⟨hg,hm⟩:=and2 hm
 obtain⟨hb,hm⟩:=and2 hm
 obtain⟨hs,hy⟩:=and2 hm
 refine wpAny_Call_Name_kw (loadB gk eo iv hg (v:=.builtin "isinstance") (bi_at 9 rfl) ?_)
 refine rwI (back_eq (xs:=[conc vars e (kid ex 1),eName (S' "bool") (kid ex 2)]) λz hz=>by
  rcases List.mem_cons.mp hz with rfl|hz
  ·exact hs
  ·rw[List.mem_singleton] at hz;subst hz;rfl) ?_
 refine Calls.callWith_builtin rfl (Calls.evalArgs_plain (Calls.spliced_cons (he.got hy eo ao iv fr hw λu s₁ x H₁ c hc q st ru iv₁ x_=>?_)))
 refine Calls.spliced_cons (loadB gk eo iv₁ hb (v:=.type "bool") (bi_at 11 rfl) (Calls.spliced_nil ?_))
 obtain⟨rfl,b,rfl⟩:=isBoolV_s hc
 obtain rfl:=ru.bool_s
 exact call_isinstance_yes (Tx:="bool") rfl (by kernel_rfl) (by refine rwI (isSubtype_type ..) ?_;kernel_rfl) ⟨_,H₁,q,st,.bool true⟩
end
section
variable {G:Glo}{C:Oracle}{n:Nat}
theorem snd_set1 (gk:GOk G)(i:Int):Snd G C n (.set1 i):=by
 refine snd_of gk (λsc vars ex hm X A env s Er ρ H R eo ao iv fr hw=>?_) λvars ex=>rfl
 obtain⟨h0,h1,hw⟩:=hw
 refine (?_:wpAny (model G.prog G.w) A (eval (.Set [.Constant (.int i) (kN (kid ex 0)) (kid ex 0).pos] 0 ex.pos) env) _ _ _)
 refine rwI (arm_eval_Set ..) ?_
 refine wpAny_bind (wpAny_standAt (wpAny_bind (inMain_ok eo iv λr=>?_)))
 have fr0:=iv.free (get?_size s.heap)
 generalize kN (kid ex 0)=k
 generalize (kid ex 0).pos=q
 refine (?_:wpAny _ _ (setDisplay (displayRoad 0 [.Constant (.int i) k q]) r [(false,eval (.Constant (.int i) k q) env >>= λv=>standAt ex.pos >>= λx_=>pure v)]) _ _ _)
 refine setDisplay_ok rfl λled=>?_
 have one:∀ {s':Shared} {Q:Value→Shared→Prop},Q (.int i s'.toks) { s' with toks:=s'.toks+1 }→wpAny (model G.prog G.w) A (eval (.Constant (.int i) k q) env) Q Er s':=λh x_ x_ x_=>h
 refine wpAny_bind (one (wpAny_bind (wpAny_standAt (wpAny_pure ⟨i,_,rfl,h0,h1,fresh_rel _ _,λh' t' hs r'=>?_⟩))))
 refine⟨.ref _,_,hw _ fr0.1,(St.start iv).new (iv.size gk) (get?_size _) (λb o e=>?_) r',.ref _⟩
 refine rwI (hs.2 b (by rintro rfl;rw[get?_size] at e;exact none_some e)) ?_
 exact push_keeps _ _ b o e
theorem meth {T id nm:String}{o:Expr}{args:List Expr}{ap p:Pos}{A:Around}{env:Env}{s:Shared}{Er:Value→Shared→Prop}{Q:Value→Shared→Prop}(pa:PlainAttrs T)(slot:Slot T (S' nm) id)(hty:typeOf (.builtin id)=pure (.type "method_descriptor"))
  (ho:notCall0 o=true) (hl:(ap.endLine==p.line)=true) (hn:args.length≤10) (hs:∀ x∈args,notStar x=true)
  (h:wpAny (model G.prog G.w) A (eval o env) (λov s₁=>s₁.TypeIs ov T∧(∀ a,ov=.ref a→∃ ob,s₁.heap.get? a=some ob∧ob.dict=none) ∧
   wpAny (model G.prog G.w) A (callWith p (.builtin id) [ov] (exprArgs args env) []) Q Er s₁) Er s) :
  wpAny (model G.prog G.w) A (eval (.Call (.Attribute o (S' nm) ap) args [] p) env) Q Er s:=by
 have e:backTo p (starEach args env)=exprArgs args env:=back_eq hs
 refine wpAny_Call_method (base_eq ho _ _ _) ?_ hl pa slot hty (by refine rwI e ?_;exact h)
 refine rwI e ?_
 have h1:(exprArgs args env).all (λx=>!x.1)=true:=by
  unfold exprArgs;refine rwI List.all_map ?_;simp
 refine rwI h1 ?_
 have h2:(backToKw p (keywordEach [] env)).all (λx=>x.1.isSome)=true:=rfl
 refine rwI h2 ?_
 simp only[List.length_nil,List.isEmpty_nil,if_true,Bool.and_self,Bool.true_and,decide_eq_true_eq]
 lia
theorem one_star {x:Expr}(h:notStar x=true):∀ y∈[x],notStar y=true:=λy hy=>by rw[List.mem_singleton] at hy;subst hy;exact h
theorem two_star {x z:Expr}(h:notStar x=true)(h':notStar z=true):∀ y∈[x,z],notStar y=true:=λy hy=>by
 rcases List.mem_cons.mp hy with rfl|hy
 ·exact h
 ·rw[List.mem_singleton] at hy;subst hy;exact h'
theorem methE {T id nm:String}{o:E}{ex:Expr}{args:List Expr}{sc:Nms}{vars:List Str}{X:Nat→Prop}{A:Around}{env:Env}{s:Shared}{Er:Value→Shared→Prop}{Q:Value→Shared→Prop}{ρ:AEnv}{H:AHeap}{R:AV→AHeap→Prop}(pa:PlainAttrs T)(slot:Slot T (S' nm) id)(hty:typeOf (.builtin id)=pure (.type "method_descriptor"))
  (ho:SndE G C n o) (hk:methOk (conc vars o (kid (kid ex 0) 0)) ex=true) (hm:mE sc vars o (kid (kid ex 0) 0)=true) (hn:args.length≤10) (hs:∀ x∈args,notStar x=true) (eo:EnvOk G X env sc) (ao:AOk n A) (iv:Inv G X H s.heap) (fr:Frm G X H s.heap env vars ρ) (hw:wE C o ρ H R)
  (h:∀ u s₁ x H₁,R x H₁→St G X No H s H₁ s₁→VRel G (Fz H₁ X) s₁.heap x u→Inv G X H₁ s₁.heap→Frm G X H₁ s₁.heap env vars ρ→s₁.TypeIs u T∧(∀ a,u=.ref a→∃ ob,s₁.heap.get? a=some ob∧ob.dict=none) ∧
   wpAny (model G.prog G.w) A (callWith ex.pos (.builtin id) [u] (exprArgs args env) []) Q Er s₁) :
  wpAny (model G.prog G.w) A (eval (eMeth (conc vars o (kid (kid ex 0) 0)) nm args ex) env) Q Er s:=
 meth pa slot hty (and2 hk).1 (and2 hk).2 hn hs (ho.use hm eo ao iv fr hw h)
theorem snd_append (gk:GOk G){o e:E}(ho:SndE G C n o)(he:SndE G C n e):Snd G C n (.append o e):=by
 refine snd_of gk (λsc vars ex hm X A env s Er ρ H R eo ao iv fr hw=>?_) λvars ex=>rfl
 obtain⟨h0,hm⟩:=and2 hm
 obtain⟨h1,hm⟩:=and2 hm
 obtain⟨h2,h3⟩:=and2 hm
 refine methE F.plainAttrs_list F.slot_list_append F.type_list_append ho h0 h1 (by exact Nat.succ_le_succ (Nat.zero_le _)) (one_star h2) eo ao iv fr hw λu s₁ y H₁ q st ru iv₁ fr₁=>?_
 obtain⟨⟨a,xs,rfl,hH⟩,q⟩:=q
 obtain rfl:=ru.ref_s
 obtain⟨vs,k,g,l,rs⟩:=iv₁.objs _ _ hH
 refine⟨(isList_of g).typeIs,λb e=>by cases e;exact⟨_,g,rfl⟩,?_⟩
 exact append_ok (he.use h3 eo ao iv₁ fr₁ q λw s₂ z H₂ q₂ st₂ rz x_ x_=>⟨z,H₂,st.trans st₂,rz,q₂⟩)
theorem snd_count (gk:GOk G){o e:E}(ho:SndE G C n o)(he:SndE G C n e):Snd G C n (.count o e):=by
 refine snd_of gk (λsc vars ex hm X A env s Er ρ H R eo ao iv fr hw=>?_) λvars ex=>rfl
 obtain⟨h0,hm⟩:=and2 hm
 obtain⟨h1,hm⟩:=and2 hm
 obtain⟨h2,h3⟩:=and2 hm
 refine methE F.plainAttrs_list F.slot_list_count F.type_list_count ho h0 h1 (by exact Nat.succ_le_succ (Nat.zero_le _)) (one_star h2) eo ao iv fr hw λu s₁ y H₁ q st ru iv₁ fr₁=>?_
 obtain⟨xs,rfl,q⟩:=q
 obtain⟨is,hi,q⟩:=ok_ex q
 obtain⟨a,vs,k,rfl,f,g,l,rs⟩:=lst_s ru
 refine⟨(isList_of g).typeIs,λb e=>by cases e;exact⟨_,g,rfl⟩,?_⟩
 refine count_ok (vs:=vs) (k:=k) hi (he.use h3 eo ao iv₁ fr₁ q λw s₂ z H₂ q₂ st₂ rz x_ x_=>?_)
 obtain⟨i,rfl,q₂⟩:=q₂
 exact⟨H₂,i,(st₂.steps a _ g f.1 id).1,rs.st st₂,st.trans st₂,rz,q₂⟩
theorem snd_add (gk:GOk G){o e:E}(ho:SndE G C n o)(he:SndE G C n e):Snd G C n (.add o e):=by
 refine snd_of gk (λsc vars ex hm X A env s Er ρ H R eo ao iv fr hw=>?_) λvars ex=>rfl
 obtain⟨h0,hm⟩:=and2 hm
 obtain⟨h1,hm⟩:=and2 hm
 obtain⟨h2,h3⟩:=and2 hm
 refine methE F.plainAttrs_set F.slot_set_add F.type_set_add ho h0 h1 (by exact Nat.succ_le_succ (Nat.zero_le _)) (one_star h2) eo ao iv fr hw λu s₁ y H₁ q st ru iv₁ fr₁=>?_
 obtain⟨⟨a,m,rfl,hH⟩,q⟩:=q
 obtain rfl:=ru.ref_s
 have r0:SetRel G s₁.heap a m:=iv₁.objs _ _ hH
 refine⟨r0.typeIs,r0.1.noDict,?_⟩
 refine Calls.callWith_builtin rfl (Calls.evalArgs_plain (Calls.spliced_cons (he.use h3 eo ao iv₁ fr₁ q λw s₂ z H₂ q₂ st₂ rz iv₂ x_=>Calls.spliced_nil ?_)))
 obtain⟨a',m',i,ho',hH',rfl,hi0,hi1,q₂⟩:=q₂
 cases ho'
 obtain⟨t,rfl⟩:=rz.int_s
 exact add_ok (iv₂.objs _ _ hH') hi0 hi1 λh' t' hs' r'=>⟨_,_,q₂,(st.trans st₂).change hH' hs' r',.none⟩
theorem snd_discard (gk:GOk G){o e:E}(ho:SndE G C n o)(he:SndE G C n e):Snd G C n (.discard o e):=by
 refine snd_of gk (λsc vars ex hm X A env s Er ρ H R eo ao iv fr hw=>?_) λvars ex=>rfl
 obtain⟨h0,hm⟩:=and2 hm
 obtain⟨h1,hm⟩:=and2 hm
 obtain⟨h2,h3⟩:=and2 hm
 refine methE F.plainAttrs_set F.slot_set_discard F.type_set_discard ho h0 h1 (by exact Nat.succ_le_succ (Nat.zero_le _)) (one_star h2) eo ao iv fr hw λu s₁ y H₁ q st ru iv₁ fr₁=>?_
 obtain⟨⟨a,m,rfl,hH⟩,q⟩:=q
 obtain rfl:=ru.ref_s
 have r0:SetRel G s₁.heap a m:=iv₁.objs _ _ hH
 refine⟨r0.typeIs,r0.1.noDict,?_⟩
 refine Calls.callWith_builtin rfl (Calls.evalArgs_plain (Calls.spliced_cons (he.use h3 eo ao iv₁ fr₁ q λw s₂ z H₂ q₂ st₂ rz iv₂ x_=>Calls.spliced_nil ?_)))
 obtain⟨a',m',i,ho',hH',rfl,q₂⟩:=q₂
 cases ho'
 obtain⟨t,rfl⟩:=rz.int_s
 exact discard_ok (iv₂.objs _ _ hH') λh' t' hs' r'=>⟨_,_,q₂,(st.trans st₂).change hH' hs' r',.none⟩
theorem snd_pop (gk:GOk G){o:E}(ho:SndE G C n o):Snd G C n (.pop o):=by
 refine snd_of gk (λsc vars ex hm X A env s Er ρ H R eo ao iv fr hw=>?_) λvars ex=>rfl
 refine methE F.plainAttrs_list F.slot_list_pop F.type_list_pop ho (and2 hm).1 (and2 hm).2 (by exact Nat.zero_le _) (λx_ h=>nomatch h) eo ao iv fr hw λu s₁ y H₁ q st ru iv₁ fr₁=>?_
 obtain⟨⟨a,xs,rfl,hH⟩,q⟩:=q
 obtain rfl:=ru.ref_s
 obtain⟨vs,k,g,l,rs⟩:=iv₁.objs _ _ hH
 exact⟨(isList_of g).typeIs,λb e=>by cases e;exact⟨_,g,rfl⟩,pop_ok st q⟩
theorem dict_noDict {s:Shared}{a:Nat}{kvs:List (Int×Value)}(hd:s.heap.DictOf (intKind G.prog G.w) a kvs):∀ b,Value.ref a=.ref b→∃ ob,s.heap.get? b=some ob∧ob.dict=none:=
 λb e=>by cases e;obtain⟨o,_,_,ho,hc,_⟩:=hd;exact⟨o,ho,hc.2.1⟩
theorem snd_get (gk:GOk G){o k d:E}(ho:SndE G C n o)(hk:SndE G C n k)(hd:SndE G C n d):Snd G C n (.get o k d):=by
 refine snd_of gk (λsc vars ex hm X A env s Er ρ H R eo ao iv fr hw=>?_) λvars ex=>rfl
 obtain⟨h0,hm⟩:=and2 hm
 obtain⟨h1,hm⟩:=and2 hm
 obtain⟨h2,hm⟩:=and2 hm
 obtain⟨h3,hm⟩:=and2 hm
 obtain⟨h4,h5⟩:=and2 hm
 refine methE F.plainAttrs_dict F.slot_dict_get F.type_dict_get ho h0 h1 (by exact Nat.succ_le_succ (Nat.succ_le_succ (Nat.zero_le _))) (two_star h2 h4) eo ao iv fr hw λu s₁ y H₁ q st ru iv₁ fr₁=>?_
 obtain⟨⟨a,es,rfl,hH⟩,q⟩:=q
 obtain rfl:=ru.ref_s
 obtain⟨kvs,hdd,l,hkk,rs⟩:=iv₁.objs _ _ hH
 refine⟨hdd.typeIs,dict_noDict hdd,?_⟩
 refine get_ok (hk.use h3 eo ao iv₁ fr₁ q λw s₂ y H₂ q₂ st₂ rw' iv₂ fr₂=>?_) (iv₁.notMods hH)
 exact hd.use h5 eo ao iv₂ fr₂ q₂ λw' s₃ y' H₃ q₃ st₃ rw₃ x_ x_=>⟨y,y',H₃,(st.trans st₂).trans st₃,rw'.st st₃,rw₃,q₃⟩
theorem snd_dpop (gk:GOk G){o k:E}(ho:SndE G C n o)(hk:SndE G C n k):Snd G C n (.dpop o k):=by
 refine snd_of gk (λsc vars ex hm X A env s Er ρ H R eo ao iv fr hw=>?_) λvars ex=>rfl
 obtain⟨h0,hm⟩:=and2 hm
 obtain⟨h1,hm⟩:=and2 hm
 obtain⟨h2,h3⟩:=and2 hm
 refine methE F.plainAttrs_dict F.slot_dict_pop F.type_dict_pop ho h0 h1 (by exact Nat.succ_le_succ (Nat.succ_le_succ (Nat.zero_le _))) (two_star h2 rfl) eo ao iv fr hw λu s₁ y H₁ q st ru iv₁ fr₁=>?_
 obtain⟨⟨a,es,rfl,hH⟩,q⟩:=q
 obtain rfl:=ru.ref_s
 obtain⟨kvs,hdd,l,hkk,rs⟩:=iv₁.objs _ _ hH
 refine⟨hdd.typeIs,dict_noDict hdd,?_⟩
 exact dpop_ok (hk.use h3 eo ao iv₁ fr₁ q λw s₂ y H₂ q₂ st₂ rw' x_ x_=>wpAny_Constant_none ⟨rfl,y,H₂,st.trans st₂,rw',q₂⟩) (iv₁.notMods hH)
theorem sub_list_slice {value slice:Expr}{a sl k:Nat}{vs:List Value}{vl vu vst:Value}{lo hi stp:Option Int}{A:Around}{s:Shared}{Er:Value→Shared→Prop}{Q:Value→Shared→Prop}
  (g:s.heap.get? a=some { cls:=.type "list",data:=.seq vs.toArray k }) (hs:s.heap.IsSliceOf sl vl vu vst) (pl:IsPart vl lo) (pu:IsPart vu hi) (ps:IsPart vst stp) (h0:stp≠some 0) (hl:vs.length≤1048576)
  (hsub:∃ ops,subscripted slice false (.ref a) (.ref sl)=operate ops (getItem (.ref a) (.ref sl)))
  (h:Q (.ref s.heap.objs.size) { s with heap:=s.heap.push { cls:=.type "list",data:=.seq (slicePick vs.toArray lo hi stp) } }) :
  wpAny (model G.prog G.w) A (subscriptTail value slice (.ref a) (.ref sl)) Q Er s:=by
 obtain⟨ops,e⟩:=hsub
 exact tail_any (isList_of g).typeIs slot_list_getitem.lookup (wpAny_getItem_list_slice (isList_of g) hs pl pu ps h0 h (by simp only[List.size_toArray];refine rwI sizeLine_eq ?_;lia)) e
theorem snd_revs (gk:GOk G){e:E}(he:SndE G C n e):Snd G C n (.revs e):=by
 refine snd_of gk (λsc vars ex hm X A env s Er ρ H R eo ao iv fr hw=>?_) λvars ex=>rfl
 refine Subscript_ (he.got hm eo ao iv fr hw λu s₁ y H₁ r hr q st ru iv₁ x_=>?_)
 obtain⟨l,vs,m,rfl,g,hl,rs,_⟩:=seq_of iv₁ ru hr
 refine wpAny_Slice (wpAny_pure (wpAny_pure ?_))
 refine rwI (evalPart_some ..) ?_
 have one:∀ {k a} {Q:Value→Shared→Prop},Q (.int 1 s₁.toks) { s₁ with toks:=s₁.toks+1 }→wpAny (model G.prog G.w) A (eval (.Constant (.int 1) k a) env) Q Er s₁:=λh x_ x_ x_=>h
 refine wpAny_UnaryOp (one (PyProof.Rows.neg_int ?_))
 refine sub_list_slice (lo:=none) (hi:=none) (stp:=some (-1)) (push_keeps _ _ _ _ g) (Heap.IsSliceOf.new ..) .none .none (.int _ _) (by decide) hl ⟨_,rfl⟩ ?_
 refine rwI (krv_pick ..) ?_
 have st1:=(st.grow (t:=s₁.toks+1+1) (push_keeps s₁.heap { cls:=.type "slice",data:=.fields #[.none,.none,.int (-1) (s₁.toks+1)] }))
 have st2:=st1.grow (t:=s₁.toks+1+1) (push_keeps (s₁.heap.push { cls:=.type "slice",data:=.fields #[.none,.none,.int (-1) (s₁.toks+1)] }) { cls:=.type "list",data:=.seq vs.reverse.toArray })
 refine⟨.lst r.1.reverse,H₁,q,st2,?_⟩
 exact .lst (n:=0) (vs:=vs.reverse) (st1.inv.free (get?_size _)) (Heap.get?_push_size _ rfl) (by refine rwI List.length_reverse ?_;exact hl) ((rs.reverse.keeps (push_keeps _ _)).keeps (push_keeps _ _))
theorem snd_upto (gk:GOk G){e:E}(m:Nat)(he:SndE G C n e):Snd G C n (.upto e m):=by
 refine snd_of gk (λsc vars ex hm X A env s Er ρ H R eo ao iv fr hw=>?_) λvars ex=>rfl
 refine Subscript_ (he.got hm eo ao iv fr hw λu s₁ y H₁ r hr q st ru iv₁ x_=>?_)
 obtain⟨l,vs,m',rfl,g,hl,rs,_⟩:=seq_of iv₁ ru hr
 refine wpAny_Slice (wpAny_pure ?_)
 refine rwI (evalPart_some ..) ?_
 have one:∀ {k a} {Q:Value→Shared→Prop},Q (.int m s₁.toks) { s₁ with toks:=s₁.toks+1 }→wpAny (model G.prog G.w) A (eval (.Constant (.int m) k a) env) Q Er s₁:=λh x_ x_ x_=>h
 refine one (wpAny_pure ?_)
 refine sub_list_slice (lo:=none) (hi:=some m) (stp:=none) (push_keeps _ _ _ _ g) (Heap.IsSliceOf.new ..) .none (.int _ _) .none (by decide) hl ⟨_,rfl⟩ ?_
 refine rwI (slicePick_upto' ..) ?_
 have st1:=(st.grow (t:=s₁.toks+1) (push_keeps s₁.heap { cls:=.type "slice",data:=.fields #[.none,.int m s₁.toks,.none] }))
 have st2:=st1.grow (t:=s₁.toks+1) (push_keeps (s₁.heap.push { cls:=.type "slice",data:=.fields #[.none,.int m s₁.toks,.none] }) { cls:=.type "list",data:=.seq (vs.toArray.toList.take m).toArray })
 refine⟨.lst (r.1.take m),H₁,q,st2,?_⟩
 exact .lst (n:=0) (vs:=vs.take m) (st1.inv.free (get?_size _)) (Heap.get?_push_size _ rfl) (by refine rwI List.length_take ?_;exact Nat.le_trans (Nat.min_le_right ..) (by assumption)) (((rs.take m).keeps (push_keeps _ _)).keeps (push_keeps _ _))
end
section
variable {G:Glo}{C:Oracle}{n:Nat}
theorem call_any {sc:Nms}{vars:List Str}{es:List E}{l:List Expr}{X:Nat→Prop}{A:Around}{env:Env}{s:Shared}{Er:Value→Shared→Prop}{ρ:AEnv}{H:AHeap}{R:AV→AHeap→Prop}{f:Value}{q:Pos}{L:Nat→Prop}{K:List AV→AHeap→(AV→AHeap→Prop)→Prop}
  (gk:GOk G) (he:SndEs G C n es) (hk:keepIn G.K f=true) (ok:OrOk G n f L K) (hL:∀ a,L a→H a=none∧∃ o,s.heap.get? a=some o) (hm:mEs sc vars es l=true) (eo:EnvOk G X env sc) (ao:AOk n A) (iv:Inv G X H s.heap) (fr:Frm G X H s.heap env vars ρ)
  (hw:wEs C es ρ H λxs H=>K xs H R):wpAny (model G.prog G.w) A (callWith q f [] (backTo q (starEach (concs vars es l) env)) []) (PV G X H s R) Er s:=by
 refine rwI (back_eq (mEs_star hm)) ?_
 refine callWith_of (by refine rwI (exprArgs_plain ..) ?_;rfl) (keeps_K hk) ?_
 have fin:∀ vs s₁,(vs.length=es.length∧PVs G X H s (λxs H=>K xs H R) vs s₁)→G.K.In s₁.heap∧wpAny (model G.prog G.w) A (call f vs) (PV G X H s R) Er s₁:=λvs s₁ p=>by
  obtain⟨hl,xs,H₁,k,st,rs⟩:=p
  exact⟨gk.X.keeps st.inv.keeps0,wpAny_mono (ok A X s₁ H₁ xs vs R Er ao st.inv rs (λa la=>let ⟨q,o,e⟩:=hL a la;⟨o,(st.steps a o e q id).1⟩) k) (λx_ x_ p=>p.from st) λx_ x_ e=>e⟩
 cases es with
 |nil=>exact evalArgs_nil3 (fin [] s ⟨rfl,[],H,hw,St.start iv,.nil⟩)
 |cons e rest=>exact Calls.evalArgs_plain (wpAny_mono (he sc vars _ hm X A env s Er ρ H _ eo ao iv fr hw) fin λx_ x_ e=>e)
theorem objAt_live {X:Nat→Prop}{env:Env}{s:Shared}{vars:List Str}{ρ:AEnv}{H:AHeap} {i a c fs}(fr:Frm G X H s.heap env vars ρ)(e:gv ρ i=some (.obj a c fs)):H a=none∧∃ o,s.heap.get? a=some o:=by
 obtain⟨⟨m,hn,hv⟩,_⟩:=fr
 obtain⟨nm,v,_,_,r⟩:=hv i _ e
 cases r with
 |obj f f' g g' k r=>exact⟨f.1,_,g⟩
theorem snd_call (gk:GOk G)(os:OrS G n C)(f:Nat){es:List E}(he:SndEs G C n es):Snd G C n (.call f es):=by
 refine snd_of gk (λsc vars ex hm X A env s Er ρ H R eo ao iv fr hw=>?_) λvars ex=>rfl
 obtain⟨hg,hm⟩:=and2 hm
 have hf:=of_decide_eq_true (and2 hm).1
 obtain⟨fa,h1,h2⟩:=gk.kfn f hf
 exact wpAny_Call_Name_kw (loadG gk eo iv hg h1 (call_any gk he h2 (os.fn f fa hf h1) (λx_ e=>e.elim) (and2 hm).2 eo ao iv fr hw))
theorem snd_mk (gk:GOk G)(os:OrS G n C)(c:Nat){es:List E}(he:SndEs G C n es):Snd G C n (.mk c es):=by
 refine snd_of gk (λsc vars ex hm X A env s Er ρ H R eo ao iv fr hw=>?_) λvars ex=>rfl
 obtain⟨hg,hm⟩:=and2 hm
 have hf:=of_decide_eq_true (and2 hm).1
 obtain⟨h1,h2⟩:=gk.kcl c hf
 exact wpAny_Call_Name_kw (loadG gk eo iv hg h1 (call_any gk he h2 (os.cls c (objAts ρ) hf) (λa ⟨i,c',fs,e⟩=>objAt_live fr e) (and2 hm).2 eo ao iv fr hw))
end
end Mine.Internal
namespace Mine.Internal
open PySem
open AutoSeq1 (wpAny_loadPart')
theorem pure_all {M:Model}{A:Around}{E:Value→Shared→Prop}{s:Shared}{Q:Bool→Shared→Prop}{v:Bool}(h:∀ c,Q c s):wpAny M A (pure v) Q E s:=wpAny_pure (h v)
theorem enum_new_tuple (l:Addr)(items:Array Value)(n:Nat) :
  Meets (Builtin.«enumerate.__new__» ⟨[.type "enumerate",.ref l],[]⟩) (λx_ R s=>s.heap.get? l=some { cls:=.type "tuple",data:=.seq items n } ∧
   R (.ok (.ret (.ref (s.heap.push { cls:=.type "tuple_iterator",data:=.fields #[.ref l,.int 0 0] }).objs.size)))
    { s with heap:=(s.heap.push { cls:=.type "tuple_iterator",data:=.fields #[.ref l,.int 0 0] }).push { cls:=.type "enumerate",data:=.fields #[.none,.bool false,.ref s.heap.objs.size,rawInt 0,.none,.none] } }):=
 .of_wp λprog w A R s h=>by
  obtain⟨hp,g,d,tk,os⟩:=s;obtain⟨hl,h⟩:=h
  have hsub:=sub_enumerate
  have hL:Heap.IsTuple (Shared.heap ⟨hp,g,d,tk,os⟩) l items:=⟨_,hl,rfl,n,rfl⟩
  wp_walk using wpAny_loadPart' hl
  refine wpAny_stack_any λst=>pure_all λc=>?_
  cases c
  ·wp_walk using wpAny_loadPart' hl,wpAny_pyIter_tuple hL
   exact⟨_,rfl,h⟩
  ·wp_walk using wpAny_loadPart' hl,wpAny_pyIter_tuple hL
   exact⟨_,rfl,h⟩
section
variable {prog:Program}{w:World}{A:Around}{E:Value→Shared→Prop}{s:Shared}
theorem call_enum_tuple {l:Addr}{items:Array Value}{n:Nat}{Q:Value→Shared→Prop}(hl:s.heap.get? l=some { cls:=.type "tuple",data:=.seq items n })
  (h:∀ h',IsEnum h' (s.heap.objs.size+1) s.heap.objs.size 0 .none→h'.IsTupleIter s.heap.objs.size l 0→h'.objs.size=s.heap.objs.size+2 →
   (∀ b o,s.heap.get? b=some o→h'.get? b=some o)→Q (.ref (s.heap.objs.size+1)) { s with heap:=h' }) :
  wpAny (model prog w) A (call (.type "enumerate") [.ref l]) Q E s:=by
 refine callType_new F.called_enumerate (by decide) (F.typeCall_enumerate_1 _) (F.newCall_enumerate_1 _) (λobj=>F.args_object_init_2 obj _) F.entry_enumerate_new
  (enum_new_tuple l items n) ⟨hl,?_⟩
 have hz:(s.heap.push { cls:=.type "tuple_iterator",data:=.fields #[.ref l,.int 0 0] }).objs.size=s.heap.objs.size+1:=Heap.size_push ..
 refine (?_:_∧_)
 refine rwI hz ?_
 have he:IsEnum ((s.heap.push { cls:=.type "tuple_iterator",data:=.fields #[.ref l,.int 0 0] }).push
   { cls:=.type "enumerate",data:=.fields #[.none,.bool false,.ref s.heap.objs.size,rawInt 0,.none,.none] }) (s.heap.objs.size+1) s.heap.objs.size 0 .none:=by
  have:=Heap.get?_push_size (s.heap.push { cls:=.type "tuple_iterator",data:=.fields #[.ref l,.int 0 0] })
   (o:={ cls:=.type "enumerate",data:=.fields #[.none,.bool false,.ref s.heap.objs.size,rawInt 0,.none,.none] }) rfl
  rw[hz] at this;exact this
 refine⟨⟨_,he,rfl⟩,h _ he ⟨_,Heap.get?_push_of_some _ (Heap.get?_push_size _ rfl),rfl,rfl⟩ (by (refine rwI (Heap.size_push ..) ?_;refine rwI hz ?_;rfl)) λb o x=>Heap.get?_push_of_some _ (Heap.get?_push_of_some _ x)⟩
theorem nextOf_tuple_item {it t:Addr}{i:Nat} {items}{x:Value}{Q:Value→Shared→Prop}(hit:s.heap.IsTupleIter it t i)(hl:s.heap.IsTuple t items)(hx:items[i]? = some x)
  (hQ:∀ h',h'.IsTupleIter it t (i+1)→Heap.SameBut it s.heap h'→Q x { s with heap:=h' }):wpAny (model prog w) A (Builtin.SmallTypes.nextOf (.ref it)) Q E s:=by
 obtain⟨o,ho,hc,hd⟩:=id hit
 obtain⟨ol,hol,_,nl,hdl⟩:=hl
 unfold Builtin.SmallTypes.nextOf
 refine wpAny_bind (wpAny_callSpecial?_slot (name:=Str.ofString "__next__") hit.typeIs F.slot_tuple_iterator_next
  (wpAny_call_entry F.slot_tuple_iterator_next hit.typeIs F.entry_tuple_iterator_next ?_ (F.args_tuple_iterator_next_1 _)))
 refine (?_:wpAny _ _ (field (.ref it) 0 >>= _) _ _ s)
 refine wpAny_bind (wpAny_field ho hd (x:=.ref t) rfl ?_)
 refine (?_:wpAny _ _ (if (Value.ref t==Value.none)=true then _ else _) _ _ s)
 refine rwI (if_neg (show ¬ ((Value.ref t==Value.none)=true) from Bool.false_ne_true)) ?_
 refine (?_:wpAny _ _ (field (.ref it) 1 >>= _) _ _ s)
 refine wpAny_bind (wpAny_field ho hd (x:=.int i 0) rfl ?_)
 refine (?_:wpAny _ _ (seqItems? (.ref t) >>= _) _ _ s)
 refine wpAny_bind (wpAny_seqItems hol hdl ?_)
 simp only[Int.toNat_natCast,hx]
 refine wpAny_bind (wpAny_setField ho hd (by simp) (wpAny_pure ⟨x,rfl,wpAny_pure (hQ _ ?_ (Heap.SameBut.update ..))⟩))
 exact⟨_,Heap.get?_update_self _ ho (Obj.isFreed_of_fields (Obj.data_mapFields hd _)),(Obj.cls_mapFields ..).trans hc,by
  rw[Obj.data_mapFields hd];rfl⟩
theorem nextOf_tuple_end {it t:Addr}{i:Nat} {items}{Q:Value→Shared→Prop}(hh:A.handled=none)(hit:s.heap.IsTupleIter it t i)(hl:s.heap.IsTuple t items)(hx:items[i]? = none)
  (hE:∀ h' e,Heap.ExtBut it s.heap h'→(∃ o,h'.get? e=some o∧o.cls=.type "StopIteration")→E (.ref e) { s with heap:=h' }):wpAny (model prog w) A (Builtin.SmallTypes.nextOf (.ref it)) Q E s:=by
 obtain⟨o,ho,hc,hd⟩:=id hit
 obtain⟨ol,hol,_,nl,hdl⟩:=hl
 unfold Builtin.SmallTypes.nextOf
 refine wpAny_bind (wpAny_callSpecial?_slot (name:=Str.ofString "__next__") hit.typeIs F.slot_tuple_iterator_next
  (wpAny_call_entry F.slot_tuple_iterator_next hit.typeIs F.entry_tuple_iterator_next ?_ (F.args_tuple_iterator_next_1 _)))
 refine (?_:wpAny _ _ (field (.ref it) 0 >>= _) _ _ s)
 refine wpAny_bind (wpAny_field ho hd (x:=.ref t) rfl ?_)
 refine (?_:wpAny _ _ (if (Value.ref t==Value.none)=true then _ else _) _ _ s)
 refine rwI (if_neg (show ¬ ((Value.ref t==Value.none)=true) from Bool.false_ne_true)) ?_
 refine (?_:wpAny _ _ (field (.ref it) 1 >>= _) _ _ s)
 refine wpAny_bind (wpAny_field ho hd (x:=.int i 0) rfl ?_)
 refine (?_:wpAny _ _ (seqItems? (.ref t) >>= _) _ _ s)
 refine wpAny_bind (wpAny_seqItems hol hdl ?_)
 simp only[Int.toNat_natCast,hx]
 refine wpAny_bind (wpAny_rule (wpAny_bind (wpAny_setField ho hd (by simp) ?_)))
 refine (?_:wpAny _ _ (newExc (.type "StopIteration") [] >>= _) _ _ _)
 refine wpAny_bind ?_
 simp only[newExc,newTuple]
 refine wpAny_bind (wpAny_newObj_type ?_ (by size_fits))
 refine wpAny_bind (m:=firstArgMember _ _) (wpAny_of_eq (a:=Value.none) (by first|rfl|(simp only[firstArgMember];rfl)) ?_)
 refine wpAny_newObj_type ?_ (by size_fits)
 dsimp only[raiseNew]
 refine wpAny_bind (wpAny_handled ?_)
 first|refine rwI (show A.in1.handled=none from hh) ?_|rw[hh]
 refine wpAny_bind (wpAny_pure (wpAny_throw ?_))
 exact hE _ _ (((Heap.SameBut.update ..).extBut.push _).push _) ⟨_,Heap.get?_push_size _ rfl,rfl⟩
end
theorem tupIter_at {h h':Heap} {a t i}(x:h.IsTupleIter a t i)(e:∀ o,h.get? a=some o→h'.get? a=some o):h'.IsTupleIter a t i:=let ⟨o,ho,r⟩:=x;⟨o,e _ ho,r⟩
theorem tup_at {h h':Heap} {a items}(x:h.IsTuple a items)(e:∀ o,h.get? a=some o→h'.get? a=some o):h'.IsTuple a items:=let ⟨o,ho,r⟩:=x;⟨o,e _ ho,r⟩
theorem drawsTuple {prog:Program}{w:World}{A:Around}(hh:A.handled=none)(it l:Addr)(hne:l≠it)(items:Array Value) :
  Draws prog w A it [it,l] items.size (λi v=>items[i]? = some v) (λi h=>h.IsTupleIter it l i∧h.IsTuple l items) where
 live:=λx_ x_ st=>let ⟨o,ho,_⟩:=st.1;⟨o,ho⟩
 frame:=λx_ x_ x_ st hk=>⟨tupIter_at st.1 λo e=>hk it (by exact .head _) o e,tup_at st.2 λo e=>hk l (by exact .tail _ (.head _)) o e⟩
 item:=λi s Q E hi st hQ=>by
  refine nextOf_tuple_item st.1 st.2 (x:=items[i]) (by simp[hi]) λh' hit' hs'=>?_
  exact hQ _ h' s.toks (by simp[hi]) ⟨hit',st.2.extBut hs'.extBut hne⟩ hs'
 done:=λs Q E st hE=>nextOf_tuple_end hh st.1 st.2 (by simp) hE
end Mine.Internal
namespace Mine.Internal
open PySem PySem.W PyProof.Rows
structure Stp (W:Nat→Prop)(s s':Shared):Prop where
 keep:∀ b o,¬ W b→s.heap.get? b=some o→s'.heap.get? b=some o
 live:∀ b,W b→(∃ o,s.heap.get? b=some o)→∃ o,s'.heap.get? b=some o
 same:Same s s'
section
variable {G:Glo}{X:Nat→Prop}{H:AHeap}{W:Nat→Prop}{s s':Shared}
theorem Stp.inv (x:Stp W s s')(i:Inv G X H s.heap)(sub:∀ b,W b→X b):Inv G X H s'.heap where
 objs:=λa o e=>(i.objs a o e).mono (λb ob f g=>⟨x.keep b ob (λw=>f.2 (sub b w)) g,f⟩) λob g=>x.keep a ob (λw=>by rw[(i.xs a (sub a w)).1] at e;exact none_some e) g
 base:=λb o e=>let ⟨p,q,r⟩:=i.base b o e;⟨x.keep b o (λw=>r (sub b w)) p,q,r⟩
 xs:=λb xb=>by
  obtain⟨p,o,e⟩:=i.xs b xb
  refine⟨p,?_⟩
  by_cases w:W b
  ·exact x.live b w ⟨o,e⟩
  ·exact⟨o,x.keep b o w e⟩
 low:=i.low
theorem Stp.fz (x:Stp W s s')(sub:∀ b,W b→X b):∀ b o,Fz H X b→s.heap.get? b=some o→s'.heap.get? b=some o∧Fz H X b:=λb o f e=>⟨x.keep b o (λw=>f.2 (sub b w)) e,f⟩
theorem Stp.but {a:Nat}{h':Heap}{t:Nat}(hw:W a)(hs:Heap.SameBut a s.heap h')(ha:∃ o,h'.get? a=some o):Stp W s { s with heap:=h',toks:=t } where
 keep:=λb o n e=>(hs.2 b λq=>n (q ▸ hw)).trans e
 live:=λb w ⟨o,e⟩=>by
  by_cases q:b=a
  ·subst q;exact ha
  ·exact⟨o,(hs.2 b q).trans e⟩
 same:=⟨rfl,rfl⟩
structure Fin' (W:Nat→Prop)(s s':Shared):Prop where
 keep:∀ b o,¬ W b→s.heap.get? b=some o→s'.heap.get? b=some o
 same:Same s s'
theorem Fin'.inv {X₀:Nat→Prop}(x:Fin' W s s')(i:Inv G X H s.heap)(sub:∀ b,W b→X b)(s0:∀ b,X₀ b→X b∧¬ W b):Inv G X₀ H s'.heap where
 objs:=λa o e=>(i.objs a o e).mono (λb ob f g=>⟨x.keep b ob (λw=>f.2 (sub b w)) g,f.1,λq=>f.2 (s0 b q).1⟩) λob g=>x.keep a ob (λw=>by rw[(i.xs a (sub a w)).1] at e;exact none_some e) g
 base:=λb o e=>let ⟨p,q,r⟩:=i.base b o e;⟨x.keep b o (λw=>r (sub b w)) p,q,λz=>r (s0 b z).1⟩
 xs:=λb xb=>by
  obtain⟨p,o,e⟩:=i.xs b (s0 b xb).1
  exact⟨p,o,x.keep b o (s0 b xb).2 e⟩
 low:=i.low
end
noncomputable def isTupT:Expr→Bool:=@λy_1=>match @y_1 with
 |.Tuple ..=>true
 |x_1=>false
noncomputable def isTgt:Expr→Bool:=@λy_1=>match @y_1 with
 |.Tuple .. | .Name ..=>true
 |x_1=>false
structure Itr (G:Glo)(A:Around)(X:Nat→Prop)(it:Value)(tup:Bool)(g:AHeap→Prop)(xs:List AV)(W:Nat→Prop)(J:AHeap→Heap→Nat→Prop):Prop where
 sub:∀ b,W b→X b
 keep:∀ {H H' h h' i},J H h i→(∀ b o,W b→h.get? b=some o→h'.get? b=some o)→(∀ b o,Fz H X b→h.get? b=some o→h'.get? b=some o∧Fz H' X b)→Inv G X H' h'→g H'→J H' h' i
 next:∀ {H:AHeap} {s:Shared} {i:Nat} {x:AV},xs[i]? = some x→Inv G X H s.heap→J H s.heap i→∀ {tg:Expr} {Q:Value→Shared→Prop} {E:Value→Shared→Prop},isTgt tg=true→(tup=true→isTupT tg=true) →
  (∀ v s',VRel G (Fz H X) s'.heap x v→J H s'.heap (i+1)→Stp W s s'→Q v s') →
  wpAny (model G.prog G.w) A (pyNext it) (λr s₁=>∃ v,r=some v∧wpAny (model G.prog G.w) A (letOwnedTupleGo tg it v) (λx_ s₂=>Q v s₂) E s₁) E s
 done:∀ {H:AHeap} {s:Shared},Inv G X H s.heap→J H s.heap xs.length→∀ {Q:Option Value→Shared→Prop} {E:Value→Shared→Prop},(∀ s',Fin' W s s'→Q none s')→wpAny (model G.prog G.w) A (pyNext it) Q E s
 self:∀ {H:AHeap} {s:Shared} {i:Nat},J H s.heap i→∀ {Q:Value→Shared→Prop} {E:Value→Shared→Prop},Q it s→wpAny (model G.prog G.w) A (pyIter it) Q E s
noncomputable def ownT:List String:=["enumerate","zip","dict_itemiterator","dict_reverseitemiterator","odict_iterator","itertools.zip_longest","itertools.pairwise"]
set_option tactic.hygienic true in
theorem go_plain {M:Model}{A:Around}{E:Value→Shared→Prop}{s:Shared}{tg:Expr}{I:Addr}{v:Value}{o:Obj}{T:String}{vs:Array Value}{Q:Unit→Shared→Prop}(ht:isTgt tg=true)(ho:s.heap.get? I=some o)(hc:o.cls=.type T)(hd:o.data=.fields vs)
  (hT:ownT.contains T=false) (h:Q () s):wpAny M A (letOwnedTupleGo tg (.ref I) v) Q E s:=by
 cases tg<;>first|(first|exact (Bool.false_ne_true ht).elim|cases ht)|skip
 ·exact wpAny_pure h
 ·cases v<;>try exact wpAny_pure h
  rename_i T' _ _ a
  unfold letOwnedTupleGo
  refine wpAny_bind (wpAny_load ho ?_)
  (refine rwI hc ?_;refine rwI hd ?_)
  dsimp only
  refine (?_:wpAny _ _ (if (ownT.contains T&&vs[0]? == some (rawInt a))=true then _ else _) _ _ _)
  (refine rwI hT ?_;refine rwI (Bool.false_and ..) ?_;refine rwI (if_neg Bool.false_ne_true) ?_)
  exact wpAny_pure h
section
variable {G:Glo}{A:Around}{X:Nat→Prop}
noncomputable def SrcL (G:Glo) (X:Nat→Prop) (a:Nat) (xs:List AV) (gd:Option Nat) (H:AHeap) (h:Heap):Prop:=
 ∃ vs k,h.get? a=some { cls:=.type "list",data:=.seq vs.toArray k }∧vs.length≤1048576∧VRels G (Fz H X) h xs vs∧((gd=some a∧H a=some (.list xs))∨(gd=none∧Fz H X a))
theorem SrcL.keep {a:Nat}{xs:List AV}{gd:Option Nat}{H H':AHeap}{h h':Heap}(r:SrcL G X a xs gd H h)(hz:∀ b o,Fz H X b→h.get? b=some o→h'.get? b=some o∧Fz H' X b)(i:Inv G X H' h')(g:guardOf xs gd H'):SrcL G X a xs gd H' h':=by
 obtain⟨vs,k,e,hl,rs,c⟩:=r
 rcases c with⟨rfl,c⟩|⟨rfl,f⟩
 ·have g:H' a=some (.list xs):=g
  obtain⟨vs',k',e',hl',rs'⟩:=i.objs _ _ g
  exact⟨vs',k',e',hl',rs',.inl ⟨rfl,g⟩⟩
 ·exact⟨vs,k,(hz a _ f e).1,hl,rs.mono hz,.inr ⟨rfl,(hz a _ f e).2⟩⟩
theorem SrcL.ne {a I:Nat}{xs:List AV}{gd:Option Nat}{H:AHeap}{h:Heap}(r:SrcL G X a xs gd H h)(i:Inv G X H h)(hI:X I):a≠I:=by
 obtain⟨vs,k,e,hl,rs,c⟩:=r
 rintro rfl
 rcases c with⟨_,c⟩|⟨_,f⟩
 ·rw[(i.xs a hI).1] at c;cases c
 ·exact f.2 hI
theorem SrcL.stp {a:Nat}{xs:List AV}{gd:Option Nat}{H:AHeap}{W:Nat→Prop}{s s':Shared}(r:SrcL G X a xs gd H s.heap)(x:Stp W s s')(i:Inv G X H s.heap)(sub:∀ b,W b→X b):SrcL G X a xs gd H s'.heap:=by
 have hne:¬ W a:=λw=>r.ne i (sub a w) rfl
 obtain⟨vs,k,e,hl,rs,c⟩:=r
 exact⟨vs,k,x.keep a _ hne e,hl,rs.mono (x.fz sub),c⟩
set_option tactic.hygienic true in
theorem itr_list (hh:A.handled=none){I a:Nat}{xs:List AV}{gd:Option Nat}(hI:X I) :
  Itr G A X (.ref I) false (guardOf xs gd) xs (λb=>b=I) (λH h i=>h.IsListIter I a i∧SrcL G X a xs gd H h) where
 sub:=λb e=>e ▸ hI
 keep:=λ{H H' h h' i} ⟨j1,j2⟩ hw hz iv g=>⟨j1.at λo e=>hw I o rfl e,j2.keep hz iv g⟩
 next:=λ{H s i x} hx iv ⟨j1,j2⟩ {tg Q E} ht x_ hQ=>by
  have hne:=j2.ne iv hI
  obtain⟨vs,k,e,hl,rs,c⟩:=id j2
  obtain⟨v,hv,rv⟩:=rs.get hx
  refine wpAny_pyNext_list_item j1 (isList_of e) (x:=v) (by simpa using hv) λh' j1' hs=>⟨v,rfl,?_⟩
  obtain⟨o,ho,hc,hd⟩:=id j1'
  have stp:Stp (λb=>b=I) s { s with heap:=h' }:=Stp.but rfl hs ⟨o,ho⟩
  refine go_plain (s:={ s with heap:=h' }) ht ho hc hd (by decide) ?_
  exact hQ v _ (rv.mono (stp.fz λb e=>e ▸ hI)) ⟨j1',j2.stp stp iv λb e=>e ▸ hI⟩ stp
 done:=λ{H s} iv ⟨j1,j2⟩ {Q E} hQ=>by
  obtain⟨vs,k,e,hl,rs,c⟩:=id j2
  refine wpAny_pyNext_list_end hh j1 (isList_of e) (by refine rwS rs.length ?_;simp) λh' he=>hQ _ ⟨λb o n g=>he b o n g,rfl,rfl⟩
 self:=λ{H s i} ⟨j1,j2⟩ {Q E} hq=>wpAny_pyIter_listiter j1 hq
theorem rangeL_get:∀ (a:Int)(n i:Nat)(x:AV),(rangeL a n)[i]? = some x→i < n∧x=.int (a+i):=@λy_1=>@λy_2=>@λy_3=>@λy_4=>@λy_5=>match @y_1,@y_2,@y_3,@y_4,@y_5 with
 |x_1,0,x_2,x_3,h=>none_some (List.getElem?_nil.symm.trans h)
 |a,n+1,0,x,h=>⟨Nat.succ_pos n,(Option.some.inj h).symm.trans (congrArg AV.int (Int.add_zero a).symm)⟩
 |a,n+1,i+1,x,h=>by
  replace h:(rangeL (a+1) n)[i]? = some x:=h
  obtain⟨h1,h2⟩:=rangeL_get (a+1) n i x h
  exact⟨by lia,by refine rwI h2 ?_;congr 1;lia⟩
theorem rangeL_len:∀ (a:Int)(n:Nat),(rangeL a n).length=n:=@λy_1=>@λy_2=>match @y_1,@y_2 with
 |x_1,0=>rfl
 |a,n+1=>congrArg Nat.succ (rangeL_len (a+1) n)
set_option tactic.hygienic true in
theorem itr_range (hh:A.handled=none){I:Nat}{a:Int}{n:Nat}(hI:X I) :
  Itr G A X (.ref I) false (λx_=>True) (rangeL a n) (λb=>b=I) (λH h i=>i≤n∧IsRangeIter h I (a+i) (n - i:Int) 1) where
 sub:=λb e=>e ▸ hI
 keep:=λ{H H' h h' i} ⟨j0,j1⟩ hw hz iv g=>⟨j0,hw I _ rfl j1⟩
 next:=λ{H s i x} hx iv ⟨j0,j1⟩ {tg Q E} ht x_ hQ=>by
  obtain⟨hi,rfl⟩:=rangeL_get _ _ _ _ hx
  refine wpAny_pyNext_range_item j1 (by lia) λh' j1' hs=>⟨_,rfl,?_⟩
  have stp:Stp (λb=>b=I) s { s with heap:=h',toks:=s.toks+1 }:=Stp.but rfl hs ⟨_,j1'⟩
  refine go_plain (s:={ s with heap:=h',toks:=s.toks+1 }) ht j1' rfl rfl (by decide) ?_
  refine hQ _ _ (.int _ _) ⟨hi,?_⟩ stp
  have e1:a+(i:Int)+1=a+((i+1:Nat):Int):=by lia
  have e2:(n:Int) - i - 1=(n:Int) - ((i+1:Nat):Int):=by lia
  rw[e1,e2] at j1'
  exact j1'
 done:=λ{H s} iv ⟨j0,j1⟩ {Q E} hQ=>by
  rw[rangeL_len] at j1
  exact wpAny_pyNext_range_end hh j1 (by lia) λh' he=>hQ _ ⟨λb o n g=>he b o n g,rfl,rfl⟩
 self:=λ{H s i} ⟨_,j1⟩ {Q E} hq=>wpAny_pyIter_rangeiter j1 hq
theorem enumFrom_get:∀ (n:Int)(xs:List AV)(i:Nat)(y:AV),(enumFrom n xs)[i]? = some y→∃ x,xs[i]? = some x∧y=.tup [.int (n+i),x]:=@λy_1=>@λy_2=>@λy_3=>@λy_4=>@λy_5=>match @y_1,@y_2,@y_3,@y_4,@y_5 with
 |x_1,[],x_2,x_3,h=>none_some (List.getElem?_nil.symm.trans h)
 |n,x::xs,0,y,h=>⟨x,rfl,(Option.some.inj h).symm.trans (congrArg (λk=>AV.tup [.int k,x]) (Int.add_zero n).symm)⟩
 |n,x::xs,i+1,y,h=>by
  obtain⟨x',h1,h2⟩:=enumFrom_get (n+1) xs i y h
  exact⟨x',h1,h2.trans (congrArg (λk=>AV.tup [.int k,x']) (by lia))⟩
theorem enumFrom_len:∀ (n:Int)(xs:List AV),(enumFrom n xs).length=xs.length:=@λy_1=>@λy_2=>match @y_1,@y_2 with
 |x_1,[]=>rfl
 |n,x_1::xs=>congrArg Nat.succ (enumFrom_len (n+1) xs)
theorem zipL_get:∀ (xs ys:List AV)(i:Nat)(z:AV),(zipL xs ys)[i]? = some z→∃ x y,xs[i]? = some x∧ys[i]? = some y∧z=.tup [x,y]:=@λy_1=>@λy_2=>@λy_3=>@λy_4=>@λy_5=>match @y_1,@y_2,@y_3,@y_4,@y_5 with
 |[],ys,i,z,h=>none_some (List.getElem?_nil.symm.trans h)
 |x::xs,[],i,z,h=>none_some (List.getElem?_nil.symm.trans h)
 |x::xs,y::ys,0,z,h=>⟨x,y,rfl,rfl,(Option.some.inj h).symm⟩
 |x::xs,y::ys,i+1,z,h=>zipL_get xs ys i z h
theorem zipL_end:∀ (xs ys:List AV),xs[(zipL xs ys).length]? = none∨ys[(zipL xs ys).length]? = none:=@λy_1=>@λy_2=>match @y_1,@y_2 with
 |[],ys=>.inl rfl
 |x::xs,[]=>.inr rfl
 |x::xs,y::ys=>zipL_end xs ys
theorem isTup_s {tg:Expr}(h:isTupT tg=true):∃ elts k p,tg=.Tuple elts k p:=by cases tg<;>first|exact⟨_,_,_,rfl⟩|exact (Bool.false_ne_true h).elim
theorem pair_rel {H:AHeap}{h:Heap}{T:Nat}{x y:AV}{u v:Value}(hf:Fz H X T)(ht:h.get? T=some { cls:=.type "tuple",data:=.seq #[u,v] })(rx:VRel G (Fz H X) h x u)(ry:VRel G (Fz H X) h y v) :
  VRel G (Fz H X) h (.tup [x,y]) (.ref T):=.tup (vs:=[u,v]) (n:=0) hf ht (by simp) (.cons rx (.cons ry .nil))
inductive EI (G:Glo)(X:Nat→Prop)(e it a:Nat)(xs:List AV)(St:List Value→Nat→Heap→Prop)(H:AHeap)(h:Heap)(i:Nat):Prop
 |mk (old:Value) (vs:List Value) (o:Obj):IsEnum h e it i old→St vs i h→VRels G (Fz H X) h xs vs→Fz H X a→h.get? a=some o→EI G X e it a xs St H h i
theorem enum_val {vs:List Value}{i:Nat}{v x:Value}(hv:vs[i]? = some v)(hP:vs.toArray[i]? = some x):x=v:=Option.some.inj (hP.symm.trans (List.getElem?_toArray.trans hv))
theorem mem_two {P:Nat→Prop}{a b c:Nat}(h:c∈[a,b])(ha:P a)(hb:P b):P c:=(List.mem_cons.mp h).elim (λe=>e ▸ ha) λh=>List.mem_singleton.mp h ▸ hb
set_option tactic.hygienic true in
theorem itr_enum {e it a:Nat}{xs:List AV}{St:List Value→Nat→Heap→Prop}(hD:∀ vs:List Value,Draws G.prog G.w A.in1 it [it,a] vs.toArray.size (λi v=>vs.toArray[i]? = some v) (St vs))(he:X e)(hi:X it)(hei:e≠it) :
  Itr G A X (.ref e) true (λx_=>True) (enumFrom 0 xs) (λb=>b=e∨b=it) (EI G X e it a xs St) where
 sub:=λb q=>q.elim (λq=>q ▸ he) λq=>q ▸ hi
 keep:=λ{H H' h h' i} J hw hz iv g=>by
  obtain⟨old,vs,o,j1,j2,rs,f,ho⟩:=J
  refine⟨old,vs,o,hw e _ (.inl rfl) j1,(hD vs).frame _ _ _ j2 (λb hb=>?_),rs.mono hz,(hz a o f ho).2,(hz a o f ho).1⟩
  exact mem_two (P:=λb=>∀ o,h.get? b=some o→h'.get? b=some o) hb (λo' e'=>hw _ _ (.inr rfl) e') λo' e'=>(hz _ _ f e').1
 next:=λ{H s i x} hx iv J {tg Q E} ht htup hQ=>by
  obtain⟨old,vs,o,j1,j2,rs,f,ho⟩:=J
  have sub:∀ b,(b=e∨b=it)→X b:=λb q=>q.elim (λq=>q ▸ he) λq=>q ▸ hi
  have hae:e≠a:=λq=>f.2 (q ▸ he)
  obtain⟨y,hy,rfl⟩:=enumFrom_get _ _ _ _ hx
  obtain⟨v,hv,rv⟩:=rs.get hy
  have hlt:i < vs.toArray.size:=(List.getElem?_eq_some_iff.mp hv).1
  have fr:=size_free iv
  refine wpAny_pyNext_enum_itemD (hD vs) j1 j2 hlt hei (by simp;exact⟨hei,hae⟩) λx' h' tk hP hout hst' hT hsz hk=>⟨_,rfl,?_⟩
  obtain rfl:=enum_val hv hP
  obtain⟨elts,kk,pp,rfl⟩:=isTup_s (htup rfl)
  refine wpAny_letOwnedTupleGo_enum (s:={ s with heap:=h',toks:=tk+1 }) hout λh'' he'' hs''=>?_
  have stp:Stp (λb=>b=e∨b=it) s { s with heap:=h'',toks:=tk+1 }:=
   ⟨λb o n g=>(hs''.2 b λq=>n (.inl q)).trans (hk b o (λq=>n (.inl q)) (λq=>n (.inr q)) g),λb w x_=>by
    rcases w with rfl|rfl
    ·exact⟨_,he''⟩
    ·exact ((hD vs).live _ _ hst').imp λoi hoi=>(hs''.2 _ hei.symm).trans hoi,rfl,rfl⟩
  refine hQ _ _ ?_ ⟨_,vs,o,he'',?_,rs.mono (stp.fz sub),f,stp.keep a o (λw=>f.2 (sub a w)) ho⟩ stp
  ·refine rwI (Int.zero_add (i:Int)) ?_
   exact pair_rel (X:=X) (H:=H) (h:=h'') (x:=.int i) (u:=.int i tk) (y:=y) (v:=x') fr ((hs''.2 _ λq:s.heap.objs.size=e=>fr.2 (q ▸ he)).trans hT) (.int _ _) (rv.mono (stp.fz sub))
  ·exact (hD vs).frame _ _ _ hst' λb hb=>mem_two (P:=λb=>∀ o,h'.get? b=some o→h''.get? b=some o) hb (λo' e'=>(hs''.2 _ hei.symm).trans e') λo' e'=>(hs''.2 _ hae.symm).trans e'
 done:=λ{H s} iv J {Q E} hQ=>by
  obtain⟨old,vs,o,j1,j2,rs,f,ho⟩:=J
  have e1:(enumFrom 0 xs).length=vs.toArray.size:=(enumFrom_len ..).trans rs.length.symm
  rw[e1] at j1 j2
  exact wpAny_pyNext_enum_endD (hD vs) j1 j2 λh' hx=>hQ _ ⟨λb o n g=>hx b o (λq=>n (.inr q)) g,rfl,rfl⟩
 self:=λ{H s i} J {Q E} hq=>by
  obtain⟨old,vs,o,j1,j2,rs,f,ho⟩:=J
  exact wpAny_pyIter_enum j1 hq
inductive ZI (G:Glo)(X:Nat→Prop)(z TI TO i1 i2 l1 l2:Nat)(xs ys:List AV)(H:AHeap)(h:Heap)(i:Nat):Prop
 |mk (a b:Value):IsZip h z TI TO .none→IsPair h TI (.ref i1) (.ref i2)→IsPair h TO a b→h.IsListIter i1 l1 i→h.IsListIter i2 l2 i→SrcL G X l1 xs none H h→SrcL G X l2 ys none H h→ZI G X z TI TO i1 i2 l1 l2 xs ys H h i
noncomputable def ZW (z TI TO i1 i2 b:Nat):Prop:=b=z∨b=TI∨b=TO∨b=i1∨b=i2
theorem ZW.all {P:Nat→Prop}{z TI TO i1 i2:Nat}(h1:P z)(h2:P TI)(h3:P TO)(h4:P i1)(h5:P i2):∀ b,ZW z TI TO i1 i2 b→P b:=λb q=>by rcases q with rfl|rfl|rfl|rfl|rfl<;>assumption
theorem iter_here {h:Heap}{a l i:Nat}(r:h.IsListIter a l i):∃ o,h.get? a=some o:=let ⟨o,ho,_⟩:=r;⟨o,ho⟩
theorem SrcL.use {a:Nat}{xs:List AV}{gd:Option Nat}{H:AHeap}{h:Heap}{P:Prop}(r:SrcL G X a xs gd H h)(k:∀ vs n,h.get? a=some { cls:=.type "list",data:=.seq (List.toArray vs) n }→VRels G (Fz H X) h xs vs→P):P:=
 let ⟨vs,n,e,_,rs,_⟩:=r;k vs n e rs
theorem arr_none {vs:List Value}{n:Nat}(h:vs.length≤n):vs.toArray[n]? = none:=List.getElem?_toArray.trans (List.getElem?_eq_none_iff.mpr h)
set_option tactic.hygienic true in
theorem itr_zip (hh:A.handled=none){z TI TO i1 i2 l1 l2:Nat}{xs ys:List AV}(D:ZipApart z TI TO i1 i2 l1 l2)(hz:X z)(hTI:X TI)(hTO:X TO)(hi1:X i1)(hi2:X i2) :
  Itr G A X (.ref z) true (λx_=>True) (zipL xs ys) (ZW z TI TO i1 i2) (ZI G X z TI TO i1 i2 l1 l2 xs ys) where
 sub:=ZW.all hz hTI hTO hi1 hi2
 keep:=λ{H H' h h' i} J hw hfz iv g=>by
  obtain⟨a,b,j1,j2,j3,j4,j5,j6,j7⟩:=J
  exact⟨a,b,hw z _ (.inl rfl) j1,hw TI _ (.inr (.inl rfl)) j2,hw TO _ (.inr (.inr (.inl rfl))) j3,j4.at λo e=>hw i1 o (.inr (.inr (.inr (.inl rfl)))) e,j5.at λo e=>hw i2 o (.inr (.inr (.inr (.inr rfl)))) e,j6.keep hfz iv trivial,j7.keep hfz iv trivial⟩
 next:=λ{H s i x} hx iv J {tg Q E} ht htup hQ=>by
  obtain⟨a,b,j1,j2,j3,j4,j5,j6,j7⟩:=J
  have sub:∀ b,ZW z TI TO i1 i2 b→X b:=ZW.all hz hTI hTO hi1 hi2
  obtain⟨x,y,hx',hy',rfl⟩:=zipL_get _ _ _ _ hx
  refine j6.use λvs k e rs=>j7.use λvs' k' e' rs'=>?_
  obtain⟨v,hv,rv⟩:=rs.get hx'
  obtain⟨v',hv',rv'⟩:=rs'.get hy'
  have fr:=size_free iv
  refine wpAny_pyNext_zip_item D j1 j2 j3 j4 j5 (isList_of e) (isList_of e') (x:=v) (y:=v') (List.getElem?_toArray.trans hv) (List.getElem?_toArray.trans hv') λh' a1 a2 a3 a4 a5 a6 hk=>⟨_,rfl,?_⟩
  obtain⟨elts,kk,pp,rfl⟩:=isTup_s (htup rfl)
  refine wpAny_letOwnedTupleGo_zip (s:={ s with heap:=h' }) a1 λh'' hz'' hs''=>?_
  have j2':IsPair h'' TI (.ref i1) (.ref i2):=(hs''.2 TI D.TIz).trans (hk TI _ D.TIz D.TITO D.TIi1 D.TIi2 j2)
  have stp:Stp (ZW z TI TO i1 i2) s { s with heap:=h'' }:=
   ⟨λb o n g=>(hs''.2 b λq=>n (.inl q)).trans (hk b o (λq=>n (.inl q)) (λq=>n (.inr (.inr (.inl q)))) (λq=>n (.inr (.inr (.inr (.inl q))))) (λq=>n (.inr (.inr (.inr (.inr q))))) g),λb w x_=>
    ZW.all (P:=λb=>∃ o,h''.get? b=some o) ⟨_,hz''⟩ ⟨_,j2'⟩ ⟨_,(hs''.2 _ D.TOz).trans a2⟩ ((iter_here a3).imp λo g=>(hs''.2 _ D.i1z).trans g) ((iter_here a4).imp λo g=>(hs''.2 _ D.i2z).trans g) b w,rfl,rfl⟩
  exact hQ _ _ (pair_rel fr ((hs''.2 _ λq:s.heap.objs.size=z=>fr.2 (q ▸ hz)).trans a5) (rv.mono (stp.fz sub)) (rv'.mono (stp.fz sub))) ⟨_,_,hz'',j2',(hs''.2 _ D.TOz).trans a2,a3.at λo g=>(hs''.2 _ D.i1z).trans g,a4.at λo g=>(hs''.2 _ D.i2z).trans g,j6.stp stp iv sub,j7.stp stp iv sub⟩ stp
 done:=λ{H s} iv J {Q E} hQ=>by
  obtain⟨a,b,j1,j2,j3,j4,j5,j6,j7⟩:=J
  refine j6.use λvs k e rs=>j7.use λvs' k' e' rs'=>?_
  refine wpAny_pyNext_zip_end hh D j1 j2 j3 j4 j5 (isList_of e) (isList_of e') ?_ λh' hk=>hQ _ ⟨λb o n g=>hk b o (λq=>n (.inl q)) (λq=>n (.inr (.inr (.inl q)))) (λq=>n (.inr (.inr (.inr (.inl q))))) (λq=>n (.inr (.inr (.inr (.inr q))))) g,rfl,rfl⟩
  exact (zipL_end xs ys).imp (λq=>arr_none (Nat.le_trans (Nat.le_of_eq rs.length) (List.getElem?_eq_none_iff.mp q))) λq=>arr_none (Nat.le_trans (Nat.le_of_eq rs'.length) (List.getElem?_eq_none_iff.mp q))
 self:=λ{H s i} J {Q E} hq=>by
  obtain⟨a,b,j1,j2,j3,j4,j5,j6,j7⟩:=J
  exact wpAny_pyIter_zip j1 hq
end
section
variable {prog:Program}{w:World}{A:Around}{E:Value→Shared→Prop}{s:Shared}
theorem draw_list {it t:Addr}{items:Array Value}(hne:t≠it):∀ (n i:Nat)(s:Shared)(Q:List Value→Shared→Prop),s.heap.IsListIter it t i→s.heap.IsList t items→i+n≤items.size →
  (∀ h',h'.IsListIter it t (i+n)→Heap.SameBut it s.heap h'→Q ((items.toList.drop i).take n) { s with heap:=h' })→wpAny (model prog w) A (draw (.ref it) n) Q E s
 |0,i,s,Q,hit,_,_,hQ=>by
  refine (?_:wpAny _ _ (pure []) Q E s)
  exact wpAny_pure (by simpa using hQ s.heap hit (Heap.SameBut.refl ..))
 |n+1,i,s,Q,hit,ht,hle,hQ=>by
  have hlt:i < items.size:=by lia
  refine (?_:wpAny _ _ (pyNext (.ref it) >>= _) Q E s)
  refine wpAny_bind (wpAny_pyNext_list_item hit ht (x:=items[i]) (by simp[hlt]) λh₁ hit₁ hs₁=>?_)
  refine wpAny_bind (wpAny_holding (draw_list hne n (i+1) _ _ hit₁ (ht.extBut hs₁.extBut hne) (by lia) λh₂ hit₂ hs₂=>wpAny_pure ?_))
  have hd:items.toList.drop i=items[i]::items.toList.drop (i+1):=by simp[List.drop_eq_getElem_cons,hlt]
  have:=hQ h₂ (by refine rwI (show i+(n+1)=i+1+n by lia) ?_;exact hit₂) (hs₁.trans hs₂)
  rw[hd,List.take_succ_cons] at this
  exact this
theorem unpackItems_list {t:Addr}{items:Array Value}{Q:List Value→Shared→Prop}(hh:A.handled=none)(ht:s.heap.IsList t items)
  (hQ:∀ h',Heap.ExtBut s.heap.objs.size s.heap h'→Q items.toList { s with heap:=h' }):wpAny (model prog w) A (unpackItems (.ref t) items.size none) Q E s:=by
 have hlt:t≠s.heap.objs.size:=by obtain⟨o,ho,_⟩:=ht;exact Nat.ne_of_lt (Heap.lt_size ho)
 unfold unpackItems
 refine wpAny_bind ?_
 ·unfold notIterableAtAll
  refine wpAny_bind (wpAny_specialOf ht.typeIs slot_list_iter.lookup ?_)
  refine wpAny_pure ?_
  simp only[Bool.false_eq_true,if_false]
  refine wpAny_bind (wpAny_holding (wpAny_pyIter_list ht ?_))
  refine wpAny_bind (wpAny_holding (draw_list hlt items.size 0 _ _ ⟨_,Heap.get?_push_size _ rfl,rfl,rfl⟩ (ht.push _) (by lia) λh₁ hit₁ hs₁=>?_))
  have hall:List.take items.size (List.drop 0 items.toList)=items.toList:=by
   refine rwI List.drop_zero ?_;exact List.take_of_length_le (by simp)
  refine rwI hall ?_
  refine rwI (if_neg (by simp)) ?_
  have ht₁:h₁.IsList t items:=(ht.push _).extBut hs₁.extBut hlt
  refine wpAny_bind (wpAny_holding (wpAny_pyNext_list_end hh hit₁ ht₁ (by simp) λh₂ he₂=>?_))
  simp only[Option.isSome_none,Bool.false_eq_true,if_false]
  refine wpAny_pure (hQ h₂ λb o hb e=>he₂ b o hb (hs₁.extBut b o hb (Heap.get?_push_of_some _ e)))
end
section
variable {G:Glo}{X O:Nat→Prop}{H H₀:AHeap}{A:Around}{Er:Value→Shared→Prop}{s s₀:Shared}{env:Env}{sc:Nms}{vars:List Str}{ρ:AEnv}
noncomputable def StO (O:Nat→Prop) (env:Env) (sc:Nms) (x:Str):Prop:=(sc.lookup x=some .local→O env.locals)∧(∀ c,sc.lookup x=some .cell→env.cells.lookup x=some c→O c)
theorem kind_s {x:Str}(h:(isL sc x||isC sc x)=true):sc.lookup x=some .local∨sc.lookup x=some .cell:=by
 unfold isL isC at h
 simp only[Bool.or_eq_true,beq_iff_eq] at h
 exact h
theorem assign_name {k:Nat}{ex:Expr}{y:AV}{v:Value}{Q:Unit→Shared→Prop}(eo:EnvOk G X env sc)(iv:Inv G X H s.heap)(fr:Frm G X H s.heap env vars ρ)(nd:vars.Nodup)(hOX:∀ b,O b→X b)
  (hv:varOk sc vars k=true) (hO:StO O env sc (nmOf vars k)) (rv:VRel G (Fz H X) s.heap y v)
  (h:∀ s',St G X O H s H s'→Frm G X H s'.heap env vars (sv ρ k (some y))→Q () s'):wpAny (model G.prog G.w) A (assign (eName (nmOf vars k) ex) env v) Q Er s:=by
 obtain⟨h1,h2⟩:=and2 hv
 refine (?_:wpAny _ _ (standAt ex.pos >>= λx_=>bindName env (nmOf vars k) v) _ _ _)
 exact wpAny_bind (wpAny_standAt (storeVarO eo (St.start iv) fr nd (varIs_s h1).1 (kind_s h2) rv hOX hO.1 hO.2 h))
theorem names_star:∀ (ns:List Nat)(ts:List Expr),(assignEach (eNames vars ns ts) env).findIdx? (·.1)=none∧(assignEach (eNames vars ns ts) env).map (·.2)=(eNames vars ns ts).map (λt=>assign t env)∧(assignEach (eNames vars ns ts) env).length=ns.length:=@λy_1=>@λy_2=>match @y_1,@y_2 with
 |[],x_1=>⟨rfl,rfl,rfl⟩
 |n::ns,ts=>by
  obtain⟨i1,i2,i3⟩:=names_star ns ts.tail
  refine⟨?_,congrArg (assign (eName (nmOf vars n) (hd ts)) env :: ·) i2,congrArg Nat.succ i3⟩
  refine (?_:List.findIdx? (·.1) ((false,assign (eName (nmOf vars n) (hd ts)) env)::assignEach (eNames vars ns ts.tail) env)=none)
  (refine rwI (List.findIdx?_cons) ?_;refine rwI i1 ?_);rfl
theorem assign_names (eo:EnvOk G X env sc)(nd:vars.Nodup)(hOX:∀ b,O b→X b):∀ {ns:List Nat}{ts:List Expr}{xs:List AV}{vs:List Value}{ρ:AEnv}{s:Shared}{Q:Unit→Shared→Prop},(∀ n∈ns,varOk sc vars n=true∧StO O env sc (nmOf vars n))→Inv G X H s.heap→Frm G X H s.heap env vars ρ →
  VRels G (Fz H X) s.heap xs vs→xs.length=ns.length→(∀ s',St G X O H s H s'→Frm G X H s'.heap env vars (svs ρ ns xs)→Q () s')→wpAny (model G.prog G.w) A (assignInOrder ((eNames vars ns ts).map λt=>assign t env) vs) Q Er s:=by
 intro ns
 induction ns with
 |nil=>
  intro ts xs vs ρ s Q hm st fr rs hl h
  cases xs with
  |nil=>obtain rfl:=rs.nil_s;exact assignInOrder_nil (h s (St.start st) fr)
  |cons _ _=>exact nomatch hl
 |cons n ns ih=>
  intro ts xs vs ρ s Q hm st fr rs hl h
  cases xs with
  |nil=>exact nomatch hl
  |cons x xs=>
   obtain⟨v,vs,rfl,r0,rs⟩:=rs.cons_s
   obtain⟨h1,h2⟩:=hm n (.head _)
   refine assignInOrder_cons (assign_name eo st fr nd hOX h1 h2 r0 λs' st' fr'=>?_)
   exact ih (ts:=ts.tail) (λm hm'=>hm m (.tail _ hm')) st'.inv fr' (rs.step st'.steps hOX) (Nat.succ.inj hl) λs'' st'' fr''=>h s'' (st'.trans st'') fr''
theorem assign_tuple {k:Nat}{p:Pos}{ns:List Nat}{ts:List Expr}{x:AV}{xs:List AV}{v:Value}{Q:Unit→Shared→Prop}(hh:A.handled=none)(eo:EnvOk G X env sc)(nd:vars.Nodup)(hOX:∀ b,O b→X b)(hm:∀ n∈ns,varOk sc vars n=true∧StO O env sc (nmOf vars n))
  (iv:Inv G X H s.heap) (fr:Frm G X H s.heap env vars ρ) (rv:VRel G (Fz H X) s.heap x v) (hu:unpackOf H ns.length x=some xs)
  (h:∀ s',St G X O H s H s'→Frm G X H s'.heap env vars (svs ρ ns xs)→Q () s'):wpAny (model G.prog G.w) A (assign (.Tuple (eNames vars ns ts) k p) env v) Q Er s:=by
 obtain⟨n1,n2,n3⟩:=names_star (env:=env) (vars:=vars) ns ts
 have go:∀ vs h',Heap.ExtBut s.heap.objs.size s.heap h'→VRels G (Fz H X) s.heap xs vs→xs.length=ns.length→wpAny (model G.prog G.w) A (assignInOrder ((assignEach (eNames vars ns ts) env).map (·.2)) vs) Q Er { s with heap:=h' }:=λvs h' he rs hl=>by
  have hk:∀ b o,s.heap.get? b=some o→h'.get? b=some o:=λb o e=>he b o (by rintro rfl;rw[get?_size] at e;exact none_some e) e
  have st0:St G X O H s H { s with heap:=h' }:=(St.start iv).grow (t:=s.toks) hk
  refine rwI n2 ?_
  have fr0:Frm G X H h' env vars ρ:=fr.step iv eo (Steps.grow (O:=No) hk)
  exact assign_names (s:={ s with heap:=h' }) eo nd hOX hm st0.inv fr0 (rs.keeps hk) hl λs'' st'' fr''=>h s'' (st0.trans st'') fr''
 obtain⟨hlen,hx⟩:=unpackOf_s hu
 have key:∀ {a j:Nat} {vs:List Value},s.heap.get? a=some { cls:=.type "list",data:=.seq vs.toArray j }→VRels G (Fz H X) s.heap xs vs→wpAny (model G.prog G.w) A (assign (.Tuple (eNames vars ns ts) k p) env (.ref a)) Q Er s:=λ{a j vs} g rs=>by
  have e:vs.toArray.size=(assignEach (eNames vars ns ts) env).length:=by simp only[List.size_toArray];(refine rwI rs.length ?_;refine rwI hlen ?_;refine rwI n3 ?_;rfl)
  refine rwI (assign_Tuple ..) ?_
  refine wpAny_bind (wpAny_standAt ?_)
  unfold unpack
  (refine rwI n1 ?_;refine rwS e ?_)
  exact wpAny_bind (wpAny_holding (unpackItems_list hh (isList_of g) λh' he=>go vs h' he rs hlen))
 rcases hx with rfl|rfl|⟨a,rfl,hH⟩
 ·obtain⟨a,vs,k,rfl,f,g,l,rs⟩:=tup_s rv
  have e:vs.toArray.size=ns.length:=by simp only[List.size_toArray];(refine rwI rs.length ?_;refine rwI hlen ?_;rfl)
  exact assign_Tuple_tuple hh (isTup_of g) (by (refine rwI n3 ?_;refine rwI e ?_;rfl)) n1 λh' he=>go vs h' he rs hlen
 ·obtain⟨a,vs,k,rfl,f,g,l,rs⟩:=lst_s rv
  exact key g rs
 ·obtain rfl:=rv.ref_s
  obtain⟨vs,k',g,l,rs⟩:=iv.objs _ _ hH
  exact key g rs
end
noncomputable def tupK:Sk→Bool:=@λy_1=>match @y_1 with
 |.enum|.zip=>true
 |x_1=>false
inductive IterAt (G:Glo)(A:Around)(X:Nat→Prop)(H:AHeap)(s:Shared)(k:Sk)(P:List AV×Option Nat→AHeap→Prop)(itv:Value)(s₂:Shared):Prop
 |mk (p:List AV×Option Nat) (H₁:AHeap) (s₁:Shared) (W:Nat→Prop) (J:(Nat→Prop)→AHeap→Heap→Nat→Prop):P p H₁→p.1.length≤1048576→St G X No H s H₁ s₁→(∀ b o,s₁.heap.get? b=some o→s₂.heap.get? b=some o)→Same s₁ s₂→(∀ b,W b→s₁.heap.get? b=none)→(∀ b,W b→∃ o,s₂.heap.get? b=some o) →
  (∀ X':Nat→Prop,(∀ b,W b→X' b)→(∀ b,X' b→X b∨s₁.heap.get? b=none)→Itr G A X' itv (tupK k) (guardOf p.1 p.2) p.1 W (J X')∧∀ h',(∀ b o,s₂.heap.get? b=some o→h'.get? b=some o)→J X' H₁ h' 0)→IterAt G A X H s k P itv s₂
section
variable {G:Glo}{C:Oracle}{n:Nat}
set_option tactic.hygienic true in
theorem Itr.turn {X W:Nat→Prop}{A:Around}{it:Value}{tup:Bool}{g:AHeap→Prop}{xs:List AV}{J:AHeap→Heap→Nat→Prop}(T:Itr G A X it tup g xs W J){H:AHeap}{s:Shared}{i:Nat}{x:AV}(hx:xs[i]? = some x)(iv:Inv G X H s.heap)(j:J H s.heap i){tg:Expr}(h1:isTgt tg=true)(h2:tup=true→isTupT tg=true)
  {N:Shared→Prop} {K:Value→Shared→Prop} {E:Value→Shared→Prop} (k:∀ v s',VRel G (Fz H X) s'.heap x v→J H s'.heap (i+1)→Stp W s s'→K v s') :
  wpAny (model G.prog G.w) A (pyNext it) (λr s₁=>match r with|none=>N s₁|some v=>wpAny (model G.prog G.w) A (letOwnedTupleGo tg it v) (λx_ s₂=>K v s₂) E s₁) E s:=
 wpAny_mono (T.next hx iv j h1 h2 k) (λr s₁ ⟨v,e,h⟩=>by subst e;exact h) λx_ x_ e=>e
theorem fzX {X X':Nat→Prop}{H:AHeap}{h h':Heap}{xs:List AV}{vs:List Value}(r:VRels G (Fz H X) h xs vs)(hk:∀ b o,h.get? b=some o→h'.get? b=some o)(hX:∀ b,X' b→X b∨h.get? b=none):VRels G (Fz H X') h' xs vs:=
 r.mono λb o f e=>⟨hk b o e,f.1,λq=>(hX b q).elim f.2 λz=>by rw[z] at e;exact none_some e⟩
theorem srcL_of {X X':Nat→Prop}{H:AHeap}{h h':Heap}{a k:Nat}{xs:List AV}{vs:List Value}{gd:Option Nat}(g:h.get? a=some { cls:=.type "list",data:=.seq vs.toArray k })(hl:vs.length≤1048576)(rs:VRels G (Fz H X) h xs vs)
  (c:(gd=some a∧H a=some (.list xs))∨(gd=none∧Fz H X a)) (hk:∀ b o,h.get? b=some o→h'.get? b=some o) (hX:∀ b,X' b→X b∨h.get? b=none):SrcL G X' a xs gd H h':=
 ⟨vs,k,hk _ _ g,hl,fzX rs hk hX,c.imp id λ⟨q,f⟩=>⟨q,f.1,λz=>(hX a z).elim f.2 λz=>by rw[z] at g;exact none_some g⟩⟩
theorem call_args {T:String}{sc:Nms}{vars:List Str}{es:List E}{l:List Expr}{X:Nat→Prop}{A:Around}{env:Env}{s:Shared}{Er:Value→Shared→Prop}{ρ:AEnv}{H:AHeap}{K:List AV→AHeap→Prop}{nm:String}{p q:Pos}{Q:Value→Shared→Prop}(i:Nat)
  (gk:GOk G) (he:SndEs G C n es) (hb:biTab[i]? = some (nm,.type T)) (hg:isG sc nm=true) (hm:mEs sc vars es l=true) (eo:EnvOk G X env sc) (ao:AOk n A) (iv:Inv G X H s.heap) (fr:Frm G X H s.heap env vars ρ) (hw:wEs C es ρ H K)
  (h0:∀ H,¬ K [] H) (h:∀ vs s₁ xs H₁,K xs H₁→St G X No H s H₁ s₁→VRels G (Fz H₁ X) s₁.heap xs vs→Inv G X H₁ s₁.heap→wpAny (model G.prog G.w) A (call (.type T) vs) Q Er s₁):wpAny (model G.prog G.w) A (eval (.Call (.Name (S' nm) p) (concs vars es l) [] q) env) Q Er s:=by
 refine wpAny_Call_Name_kw (loadB gk eo iv hg (bi_at i hb) ?_)
 refine rwI (back_eq (mEs_star hm)) ?_
 cases es with
 |nil=>exact (h0 H hw).elim
 |cons e rest=>
  refine PyProof.Rows.callWith_type (by (refine rwI (exprArgs_plain ..) ?_;rfl)) ?_
  exact Calls.evalArgs_plain (he.use hm eo ao iv fr hw λvs s₁ xs H₁ q x_ st rs iv₁ x_=>h vs s₁ xs H₁ q st rs iv₁)
theorem one_s {F:Nat→Prop}{h:Heap}{x:AV}{vs:List Value}(r:VRels G F h [x] vs):∃ v,vs=[v]∧VRel G F h x v:=by
 cases r with|cons r0 rs=>cases rs;exact⟨_,rfl,r0⟩
theorem one_lst {F:Nat→Prop}{h:Heap}{ys:List AV}{ws:List Value}(r:VRels G F h [.lst ys] ws):∃ a vs k,ws=[.ref a]∧F a∧h.get? a=some { cls:=.type "list",data:=.seq (List.toArray vs) k }∧vs.length≤1048576∧VRels G F h ys vs:=by
 obtain⟨v,rfl,r1⟩:=one_s r
 obtain⟨a,vs,k,rfl,q⟩:=lst_s r1
 exact⟨a,vs,k,rfl,q⟩
theorem one_tup {F:Nat→Prop}{h:Heap}{ys:List AV}{ws:List Value}(r:VRels G F h [.tup ys] ws):∃ a vs k,ws=[.ref a]∧F a∧h.get? a=some { cls:=.type "tuple",data:=.seq (List.toArray vs) k }∧vs.length≤1048576∧VRels G F h ys vs:=by
 obtain⟨v,rfl,r1⟩:=one_s r
 obtain⟨a,vs,k,rfl,q⟩:=tup_s r1
 exact⟨a,vs,k,rfl,q⟩
noncomputable def RngS (vs:List AV) (p:List AV×Option Nat):Prop:=∃ a b:Int,(0≤a∧a < 2 ^ 20∧0≤b∧b < 2 ^ 20)∧(vs=[.int a,.int b]∨(a=0∧vs=[.int b]))∧p=(rangeL a (b - a).toNat,none)
theorem rng_some {vs:List AV}{c:Prop} [Decidable c]{q p:List AV×Option Nat}(h:(if c then some q else Option.none)=some p)(f:c→q=p→RngS vs p):RngS vs p:=by
 by_cases hc:c
 ·rw[if_pos hc] at h;exact f hc (Option.some.inj h)
 ·rw[if_neg hc] at h;exact none_some h
theorem range_some {vs:List AV}{H:AHeap}{p:List AV×Option Nat}(h:srcOf H .range vs=some p):RngS vs p:=by
 cases vs with
 |nil=>exact none_some h
 |cons x r=>
  cases r with
  |nil=>
   cases x with
   |int n=>
    exact rng_some h λh1 e=>⟨0,n,⟨Int.le_refl 0,by decide,h1.1,h1.2⟩,.inr ⟨rfl,rfl⟩,e.symm.trans (by (refine rwI (Int.sub_zero ..) ?_;rfl))⟩
   |_=>exact none_some h
  |cons y r=>
   cases r with
   |nil=>
    cases x with
    |int a=>
     cases y with
     |int b=>
      exact rng_some h λh1 e=>⟨a,b,h1,.inl rfl,e.symm⟩
     |_=>exact none_some h
    |_=>exact none_some h
   |cons z r=>cases x<;>first|exact none_some h|(cases y<;>exact none_some h)
noncomputable def EnuS (vs:List AV) (p:List AV×Option Nat):Prop:=∃ ys,(vs=[.lst ys]∨vs=[.tup ys])∧p=(enumFrom 0 ys,none)
theorem enum_some {vs:List AV}{H:AHeap}{p:List AV×Option Nat}(h:srcOf H .enum vs=some p):EnuS vs p:=by
 cases vs with
 |nil=>exact none_some h
 |cons x r=>
  cases r with
  |nil=>
   cases x with
   |lst ys=>exact⟨ys,.inl rfl,(Option.some.inj h).symm⟩
   |tup ys=>exact⟨ys,.inr rfl,(Option.some.inj h).symm⟩
   |_=>exact none_some h
  |cons y r=>cases x<;>exact none_some h
noncomputable def ZipS (vs:List AV) (p:List AV×Option Nat):Prop:=∃ ys zs,vs=[.lst ys,.lst zs]∧p=(zipL ys zs,none)
theorem zip_some {vs:List AV}{H:AHeap}{p:List AV×Option Nat}(h:srcOf H .zip vs=some p):ZipS vs p:=by
 cases vs with
 |nil=>exact none_some h
 |cons x r=>
  cases r with
  |nil=>cases x<;>exact none_some h
  |cons y r=>
   cases r with
   |nil=>
    cases x with
    |lst ys=>
     cases y with
     |lst zs=>exact⟨ys,zs,rfl,(Option.some.inj h).symm⟩
     |_=>exact none_some h
    |_=>exact none_some h
   |cons z r=>cases x<;>first|exact none_some h|(cases y<;>exact none_some h)
set_option tactic.hygienic true in
theorem range_iter {X:Nat→Prop}{A:Around}{H H₁:AHeap}{s s₁ s₂:Shared}{Er:Value→Shared→Prop}{a b:Int}{t u v:Tok}{r:Nat}{P:List AV×Option Nat→AHeap→Prop}(ao:AOk n A)(hab:0≤a∧a < 2 ^ 20∧0≤b∧b < 2 ^ 20)
  (hP:P (rangeL a (b - a).toNat,none) H₁) (st:St G X No H s H₁ s₁) (hk:∀ b o,s₁.heap.get? b=some o→s₂.heap.get? b=some o) (hsm:Same s₁ s₂) (hr:IsRange s₂.heap r a b 1 t u v) :
  wpAny (model G.prog G.w) A (pyIter (.ref r)) (λitv s₃=>IterAt G A X H s .range P itv s₃) Er s₂:=by
 refine wpAny_pyIter_range hr (small_one (by lia) (by lia) (by lia) (by lia)) ?_
 refine rwI (rangeSize_one ..) ?_
 have e:(if a < b then b - a else 0)=(((b - a).toNat:Nat):Int):=by
  split
  ·rename_i h;exact (Int.toNat_of_nonneg (Int.sub_nonneg_of_le (Int.le_of_lt h))).symm
  ·rename_i h;refine rwI (Int.toNat_of_nonpos (Int.sub_nonpos_of_le (Int.not_lt.mp h))) ?_;rfl
 refine rwI e ?_
 refine⟨_,H₁,s₁,λc=>c=s₂.heap.objs.size,λX' H h i=>i≤(b - a).toNat∧IsRangeIter h s₂.heap.objs.size (a+i) (((b - a).toNat:Nat) - i:Int) 1,hP,by refine rwI (rangeL_len ..) ?_;exact Int.toNat_le.mpr (Int.le_trans (Int.sub_le_self b hab.1) (Int.le_of_lt hab.2.2.2)),st,λc o g=>push_keeps _ _ c o (hk c o g),hsm.trans ⟨rfl,rfl⟩,?_,?_,?_⟩
 ·rintro c rfl
  cases q:s₁.heap.get? s₂.heap.objs.size with
  |none=>rfl
  |some o=>have:=hk _ _ q;rw[get?_size] at this;cases this
 ·rintro c rfl;exact⟨_,Heap.get?_push_size _ rfl⟩
 ·intro X' h1 h2
  refine⟨itr_range ao.hd (h1 _ rfl),λh' hk'=>⟨Nat.zero_le _,hk' _ _ ?_⟩⟩
  have:=Heap.get?_push_size s₂.heap (o:={ cls:=.type "range_iterator",data:=.fields #[rawInt a,rawInt (((b - a).toNat:Nat):Int),rawInt 1] }) rfl
  simpa using this
theorem zipL_le:∀ (xs ys:List AV),(zipL xs ys).length≤xs.length:=@λy_1=>@λy_2=>match @y_1,@y_2 with
 |[],x_1=>Nat.le_refl 0
 |x_1::x_2,[]=>Nat.zero_le _
 |x::xs,y::ys=>Nat.succ_le_succ (zipL_le xs ys)
theorem fresh_of {h h':Heap}(hk:∀ b o,h.get? b=some o→h'.get? b=some o){c:Nat}(hc:h'.objs.size≤c):h.get? c=none:=by
 cases q:h.get? c with
 |none=>rfl
 |some o=>exact absurd (Heap.lt_size (hk _ _ q)) (Nat.not_lt.mpr hc)
theorem fresh_add (h:Heap)(k:Nat):h.get? (h.objs.size+k)=none:=fresh_of (λx_ x_ e=>e) (Nat.le_add_right _ k)
theorem enum_iter {A:Around}{X:Nat→Prop}{H H₁:AHeap}{s s₁:Shared}{P:List AV×Option Nat→AHeap→Prop}{a:Nat}{ys:List AV}{ws:List Value}{ob:Obj}{h':Heap}{Sx:List Value→Nat→Heap→Prop}
  (st:St G X No H s H₁ s₁) (hP:P (enumFrom 0 ys,none) H₁) (hlen:ys.length≤1048576) (g:s₁.heap.get? a=some ob) (f:Fz H₁ X a) (rs:VRels G (Fz H₁ X) s₁.heap ys ws)
  (hD:∀ vs:List Value,Draws G.prog G.w A.in1 s₁.heap.objs.size [s₁.heap.objs.size,a] vs.toArray.size (λi v=>vs.toArray[i]? = some v) (Sx vs))
  (j1:IsEnum h' (s₁.heap.objs.size+1) s₁.heap.objs.size 0 .none) (j2:∀ h'',(∀ b o,h'.get? b=some o→h''.get? b=some o)→Sx ws 0 h'') (ho:∃ o,h'.get? s₁.heap.objs.size=some o) (hk:∀ b o,s₁.heap.get? b=some o→h'.get? b=some o) :
  IterAt G A X H s .enum P (.ref (s₁.heap.objs.size+1)) { s₁ with heap:=h' }:=
 ⟨(enumFrom 0 ys,none),H₁,s₁,λb=>b=s₁.heap.objs.size+1∨b=s₁.heap.objs.size,λX'=>EI G X' (s₁.heap.objs.size+1) s₁.heap.objs.size a ys Sx,hP,Nat.le_trans (Nat.le_of_eq (enumFrom_len ..)) hlen,st,hk,⟨rfl,rfl⟩,
  λc w=>w.elim (λe=>e ▸ fresh_add _ 1) λe=>e ▸ get?_size _,λc w=>w.elim (λe=>e ▸ ⟨_,j1⟩) λe=>e ▸ ho,
  λX' h1 h2=>⟨itr_enum hD (h1 _ (.inl rfl)) (h1 _ (.inr rfl)) (Nat.succ_ne_self _),λh'' hk'=>⟨_,ws,ob,hk' _ _ j1,j2 h'' hk',fzX rs (λb o e=>hk' b o (hk b o e)) h2,⟨f.1,λz=>(h2 a z).elim f.2 λz=>none_some (z.symm.trans g)⟩,hk' _ _ (hk _ _ g)⟩⟩⟩
theorem zip_iter {A:Around}{X:Nat→Prop}{H H₁:AHeap}{s s₁:Shared}{P:List AV×Option Nat→AHeap→Prop}{a b k k':Nat}{ys zs:List AV}{ws us:List Value}{h':Heap}(ao:AOk n A)
  (st:St G X No H s H₁ s₁) (hP:P (zipL ys zs,none) H₁) (hlen:ys.length≤1048576) (f:Fz H₁ X a) (g:s₁.heap.get? a=some { cls:=.type "list",data:=.seq ws.toArray k }) (hl:ws.length≤1048576) (rs:VRels G (Fz H₁ X) s₁.heap ys ws)
  (f':Fz H₁ X b) (g':s₁.heap.get? b=some { cls:=.type "list",data:=.seq us.toArray k' }) (hl':us.length≤1048576) (rs':VRels G (Fz H₁ X) s₁.heap zs us) {z TI TO i1 i2:Nat} {u v:Value}
  (ez:z=s₁.heap.objs.size+4) (eTI:TI=s₁.heap.objs.size+2) (eTO:TO=s₁.heap.objs.size+3) (ei1:i1=s₁.heap.objs.size) (ei2:i2=s₁.heap.objs.size+1)
  (j1:IsZip h' z TI TO .none) (j2:IsPair h' TI (.ref i1) (.ref i2)) (j3:IsPair h' TO u v) (j4:h'.IsListIter i1 a 0) (j5:h'.IsListIter i2 b 0) (hk:∀ b o,s₁.heap.get? b=some o→h'.get? b=some o) :
  IterAt G A X H s .zip P (.ref z) { s₁ with heap:=h' }:=by
 have D:ZipApart z TI TO i1 i2 a b:=by
  have lt1:@LT.lt Nat _ a s₁.heap.objs.size:=Heap.lt_size g
  have lt2:@LT.lt Nat _ b s₁.heap.objs.size:=Heap.lt_size g'
  clear j1 j2 j3 j4 j5 hk rs rs' st hP f f' g g'
  constructor<;>(refine @id (@Ne Nat _ _) ?_;lia)
 subst ez eTI eTO ei1 ei2
 exact⟨(zipL ys zs,none),H₁,s₁,_,λX'=>ZI G X' _ _ _ _ _ a b ys zs,hP,Nat.le_trans (zipL_le ys zs) hlen,st,hk,⟨rfl,rfl⟩,
  ZW.all (P:=λc=>s₁.heap.get? c=none) (fresh_add _ 4) (fresh_add _ 2) (fresh_add _ 3) (fresh_add _ 0) (fresh_add _ 1),
  ZW.all (P:=λc=>∃ o,h'.get? c=some o) ⟨_,j1⟩ ⟨_,j2⟩ ⟨_,j3⟩ (iter_here j4) (iter_here j5),
  λX' h1 h2=>⟨itr_zip ao.hd D (h1 _ (.inl rfl)) (h1 _ (.inr (.inl rfl))) (h1 _ (.inr (.inr (.inl rfl)))) (h1 _ (.inr (.inr (.inr (.inl rfl))))) (h1 _ (.inr (.inr (.inr (.inr rfl))))),λh'' hk'=>⟨_,_,hk' _ _ j1,hk' _ _ j2,hk' _ _ j3,j4.at λo e=>hk' _ o e,j5.at λo e=>hk' _ o e,
   srcL_of g hl rs (.inr ⟨rfl,f⟩) (λb o e=>hk' b o (hk b o e)) h2,srcL_of g' hl' rs' (.inr ⟨rfl,f'⟩) (λb o e=>hk' b o (hk b o e)) h2⟩⟩⟩
theorem iter_ok {k:Sk}{es:List E}{sc:Nms}{vars:List Str}{it:Expr}{X:Nat→Prop}{A:Around}{env:Env}{s:Shared}{Er:Value→Shared→Prop}{ρ:AEnv}{H:AHeap}{P:List AV×Option Nat→AHeap→Prop}
  (gk:GOk G) (he:∀ e∈es,SndE G C n e) (hb:srcB sc k es=true) (hm:mEs sc vars es (srcs k it)=true) (eo:EnvOk G X env sc) (ao:AOk n A) (iv:Inv G X H s.heap) (fr:Frm G X H s.heap env vars ρ) (hw:wEs C es ρ H λvs H=>ok (srcOf H k vs) λp=>P p H) :
  wpAny (model G.prog G.w) A (eval (eSrc k (concs vars es (srcs k it)) it) env) (λxv s₁=>wpAny (model G.prog G.w) A (pyIter xv) (λitv s₂=>IterAt G A X H s k P itv s₂) Er s₁) Er s:=by
 have hA:A.in1.handled=none:=by simp[ao.hd]
 cases k with
 |plain=>
  cases es with
  |nil=>exact (Bool.false_ne_true hb).elim
  |cons x r=>cases r with
   |cons _ _=>exact (Bool.false_ne_true hb).elim
   |nil=>
    refine (he x (.head _)).use (and2 (and2 hm).2).1 eo ao iv fr hw λu s₁ y H₁ q st ru iv₁ x_=>?_
    obtain⟨p,hp,q⟩:=ok_ex q
    obtain⟨a,vs,k,rfl,g,hl,rs,c⟩:=seq_of iv₁ ru hp
    refine wpAny_pyIter_list (isList_of g) ?_
    refine⟨p,H₁,s₁,λc=>c=s₁.heap.objs.size,λX' H h i=>h.IsListIter s₁.heap.objs.size a i∧SrcL G X' a p.1 p.2 H h,q,by refine rwS rs.length ?_;exact hl,st,push_keeps _ _,⟨rfl,rfl⟩,?_,?_,?_⟩
    ·rintro c rfl;exact get?_size _
    ·rintro c rfl;exact⟨_,Heap.get?_push_size _ rfl⟩
    ·intro X' h1 h2
     exact⟨itr_list ao.hd (h1 _ rfl),λh' hk'=>⟨⟨_,hk' _ _ (Heap.get?_push_size _ rfl),rfl,rfl⟩,srcL_of g hl rs c (λb o e=>hk' b o (push_keeps _ _ b o e)) h2⟩⟩
 |range=>
  refine call_args 6 gk (sndEs he) rfl hb hm eo ao iv fr hw (λx_ h=>h) λvs s₁ xs H₁ q st rs iv₁=>?_
  obtain⟨p,hp,hP⟩:=ok_ex q
  obtain⟨a,b,hab,hxs,rfl⟩:=range_some hp
  rcases hxs with rfl|⟨rfl,rfl⟩
  ·obtain⟨v0,ws,rfl,r0,rs⟩:=rs.cons_s
   obtain⟨v1,rfl,r1⟩:=one_s rs
   obtain⟨t0,rfl⟩:=r0.int_s
   obtain⟨t1,rfl⟩:=r1.int_s
   refine call_range_2 ?_
   exact range_iter (s₂:={ s₁ with heap:=s₁.heap.push _,toks:=s₁.toks+1 }) ao hab hP st (push_keeps _ _) ⟨rfl,rfl⟩ (IsRange.new ..)
  ·obtain⟨v0,rfl,r0⟩:=one_s rs
   obtain⟨t0,rfl⟩:=r0.int_s
   refine call_range_1 ?_
   exact range_iter (s₂:={ s₁ with heap:=s₁.heap.push _,toks:=s₁.toks+1+1 }) ao hab hP st (push_keeps _ _) ⟨rfl,rfl⟩ (IsRange.new ..)
 |enum=>
  refine call_args 4 gk (sndEs he) rfl hb hm eo ao iv fr hw (λx_ h=>h) λvs s₁ xs H₁ q st rs iv₁=>?_
  obtain⟨p,hp,hP⟩:=ok_ex q
  obtain⟨ys,hxs,rfl⟩:=enum_some hp
  rcases hxs with rfl|rfl
  ·obtain⟨a,ws,k,rfl,f,g,hl,rs'⟩:=one_lst rs
   have hne:a≠s₁.heap.objs.size:=by rintro rfl;rw[get?_size] at g;exact none_some g
   refine call_enumerate_list (isList_of g) λh' j1 j2 hz hk=>wpAny_pyIter_enum (s:={ s₁ with heap:=h' }) j1 ?_
   exact enum_iter (Sx:=λvs i h=>h.IsListIter s₁.heap.objs.size a i∧h.IsList a vs.toArray) st hP (Nat.le_trans (Nat.le_of_eq rs'.length.symm) hl) g f rs' (λvs=>Draws.list hA _ _ hne _) j1 (λh'' hk'=>⟨j2.at λo e=>hk' _ o e,⟨_,hk' _ _ (hk _ _ g),rfl,_,rfl⟩⟩) (iter_here j2) hk
  ·obtain⟨a,ws,k,rfl,f,g,hl,rs'⟩:=one_tup rs
   have hne:a≠s₁.heap.objs.size:=by rintro rfl;rw[get?_size] at g;exact none_some g
   refine call_enum_tuple g λh' j1 j2 hz hk=>wpAny_pyIter_enum (s:={ s₁ with heap:=h' }) j1 ?_
   obtain⟨oi,hoi,_⟩:=id j2
   exact enum_iter (Sx:=λvs i h=>h.IsTupleIter s₁.heap.objs.size a i∧h.IsTuple a vs.toArray) st hP (Nat.le_trans (Nat.le_of_eq rs'.length.symm) hl) g f rs' (λvs=>drawsTuple hA _ _ hne _) j1 (λh'' hk'=>⟨tupIter_at j2 λo e=>hk' _ o e,⟨_,hk' _ _ (hk _ _ g),rfl,_,rfl⟩⟩) ⟨oi,hoi⟩ hk
 |zip=>
  refine call_args 5 gk (sndEs he) rfl hb hm eo ao iv fr hw (λx_ h=>h) λvs s₁ xs H₁ q st rs iv₁=>?_
  obtain⟨p,hp,hP⟩:=ok_ex q
  obtain⟨ys,zs,rfl,rfl⟩:=zip_some hp
  obtain⟨v0,us0,rfl,r0,rs2⟩:=rs.cons_s
  ·obtain⟨a,ws,k,rfl,f,g,hl,rs'⟩:=lst_s r0
   obtain⟨b,us,k',rfl,f',g',hl',rs''⟩:=one_lst rs2
   refine call_zip_2 (isList_of g) (isList_of g') λh' j1 j2 j3 j4 j5 hz hk=>wpAny_pyIter_zip (s:={ s₁ with heap:=h' }) j1 ?_
   exact zip_iter ao st hP (Nat.le_trans (Nat.le_of_eq rs'.length.symm) hl) f g hl rs' f' g' hl' rs'' rfl rfl rfl rfl rfl j1 j2 j3 j4 j5 hk
end
section
variable {prog:Program}{w:World}{A:Around}{E:Value→Shared→Prop}{s:Shared}
noncomputable def CE (M:Model) (A:Around) (env:Env) (R:Result→Shared→Prop):Value→Shared→Prop:=notedBy M A env λe s'=>R (.error e) s'
noncomputable def CB (M:Model) (A:Around) (env:Env) (elt:Expr) (ifs:List Expr) (acc:Value) (R:Result→Shared→Prop) (K:Shared→Prop) (s:Shared):Prop:=
 wpAny M A (forIn ifs true λc r=>if r=true then do let ok ← isTrue c env (eval c env);pure (ForInStep.yield ok) else pure (ForInStep.yield r)) (λok s₃=>
  if ok=true then wpAny M A (eval elt env) (λx s₄=>wpAny M A (call (.builtin "list.append") [acc,x]) (λx_ s₅=>K s₅) (CE M A env R) s₄) (CE M A env R) s₃ else K s₃) (CE M A env R) s
set_option tactic.hygienic true in
theorem comp_loop {R:Result→Shared→Prop}{elt target iter:Expr}{ifs:List Expr}{scope:Scope}{pos:Pos}{it acc:Value}{env:Env}(I:Nat→Shared→Prop)
  (turn:∀ n s,I n s→wpAny (model prog w) A (pyNext it) (λr s₁=>match r with
   |none=>R (.ok .next) s₁
   |some v=>wpAny (model prog w) A (letOwnedTupleGo target it v) (λx_ s₁'=>wpAny (model prog w) A (assign target env v) (λx_ s₂=>CB (model prog w) A env elt ifs acc R (λs=>∃ m,m < n∧I m s) s₂) (CE (model prog w) A env R) s₁') (CE (model prog w) A env R) s₁) (CE (model prog w) A env R) s)
  (n:Nat) (h:I n s):codeAny (model prog w) A (.compLoop (.ListComp elt [⟨target,iter,ifs,0⟩] scope pos) 0 it acc env) R s:=by
 refine codeAny_loop rfl I (λn s hI=>?_) n h
 refine (?_:wpAny _ A ((compTurn (.ListComp elt [⟨target,iter,ifs,0⟩] scope pos) 0 it acc env).onRaise (λx=>do noteFrame x env;theTreesLotGoes x)) _ _ s)
 refine wpAny_noted ?_
 refine rwI (compTurn_list ..) ?_
 refine wpAny_bind (wpAny_standAt (wpAny_bind (wpAny_mono (turn n s hI) (λr s₁ h₁=>?_) λx_ x_ h'=>h')))
 cases r with
 |none=>exact wpAny_pure h₁
 |some v=>
  refine wpAny_bind (wpAny_mono h₁ (λx_ s₁' h₁'=>?_) λx_ x_ h'=>h')
  refine wpAny_bind (wpAny_mono h₁' (λx_ s₂ h₂=>wpAny_bind (wpAny_mono h₂ (λok s₃ h₃=>?_) λx_ x_ h'=>h')) λx_ x_ h'=>h')
  cases ok with
  |false=>exact wpAny_pure ⟨rfl,h₃⟩
  |true=>
   exact wpAny_bind (wpAny_bind (wpAny_mono h₃ (λx s₄ h₄=>wpAny_bind (wpAny_mono h₄ (λx_ s₅ h₅=>wpAny_pure (wpAny_pure ⟨rfl,h₅⟩)) λx_ x_ h'=>h')) λx_ x_ h'=>h'))
end
noncomputable def closL (cells:List (Str×Addr)):List (Str×NameKind)→List (Str×Addr)→List (Str×Addr):=@λy_1=>@λy_2=>match @y_1,@y_2 with
 |[],acc=>acc
 |(n,k)::r,acc=>closL cells r (if k==.free then (n,(cells.lookup n).getD 0)::acc else acc)
theorem closureFor_eq {scope:Scope}{env:Env}(h:∀ x∈scope.names,x.2=.free→(env.cells.lookup x.1).isSome=true):closureFor scope env=pure (closL env.cells scope.names []):=by
 dsimp only[closureFor]
 have key:∀ (l:List (Str×NameKind)) (acc:List (Str×Addr)),(∀ x∈l,x.2=.free→(env.cells.lookup x.1).isSome=true) →
   (forIn l acc λx cs=>match x with|(name,kind)=>if (kind==NameKind.free)=true then (do let c ← cellOf env name;pure (ForInStep.yield ((name,c)::cs))) else pure (ForInStep.yield cs))=(pure (closL env.cells l acc):Sem _):=by
  intro l
  induction l with
  |nil=>intro acc _;refine rwI List.forIn_nil ?_;rfl
  |cons x l ih=>
   intro acc hx
   obtain⟨n,k⟩:=x
   refine rwI (List.forIn_cons ..) ?_
   by_cases q:(k==NameKind.free)=true
   ·have hf:=hx (n,k) (.head _) (by simpa using q)
    obtain⟨c,hc⟩:=Option.isSome_iff_exists.mp hf
    have hcell:cellOf env n=pure c:=by
     have hc:env.cells.lookup n=some c:=hc
     unfold cellOf;(refine rwI hc ?_;rfl)
    have hc:env.cells.lookup n=some c:=hc
    simp only[q,if_true,hcell,pure_bind]
    refine (ih ((n,c)::acc) λy hy=>hx y (.tail _ hy)).trans ?_
    refine (?_:_=(pure (closL env.cells l (if (k==NameKind.free)=true then (n,(env.cells.lookup n).getD 0)::acc else acc)):Sem _))
    (refine rwI (if_pos q) ?_;refine rwI hc ?_);rfl
   ·have q':(k==NameKind.free)=false:=by simpa using q
    simp only[q',Bool.false_eq_true,if_false,pure_bind]
    refine (ih acc λy hy=>hx y (.tail _ hy)).trans ?_
    refine (?_:_=(pure (closL env.cells l (if (k==NameKind.free)=true then (n,(env.cells.lookup n).getD 0)::acc else acc)):Sem _))
    (refine rwI (if_neg q) ?_;rfl)
 refine rwI (show (forIn scope.names ([]:List (Str×Addr)) _:Sem _)=_ from key scope.names [] h) ?_
 rfl
set_option tactic.hygienic true in
theorem closL_look {cells:List (Str×Addr)}:∀ (l:List (Str×NameKind))(acc:List (Str×Addr)),(∀ x∈l,x.2=.free→(cells.lookup x.1).isSome=true)→(∀ n c,acc.lookup n=some c→cells.lookup n=some c) →
  (∀ n c,(closL cells l acc).lookup n=some c→cells.lookup n=some c)∧(∀ n,(n,NameKind.free)∈l∨(acc.lookup n).isSome=true→((closL cells l acc).lookup n).isSome=true):=@λy_1=>@λy_2=>@λy_3=>@λy_4=>match @y_1,@y_2,@y_3,@y_4 with
 |[],acc,x_1,ha=>⟨ha,λn h=>by rcases h with h|h;exact (nomatch h);exact h⟩
 |(m,k)::r,acc,hf,ha=>by
  have ih:=closL_look (cells:=cells) r (if k==.free then (m,(cells.lookup m).getD 0)::acc else acc) (λx hx=>hf x (.tail _ hx)) ?_
  ·refine⟨ih.1,λn h=>ih.2 n ?_⟩
   rcases h with h|h
   ·rcases List.mem_cons.mp h with h|h
    ·cases h
     right
     simp
    ·exact .inl h
   ·right
    split
    ·refine rwI List.lookup_cons ?_
     split
     ·rfl
     ·exact h
    ·exact h
  ·intro n c h
   split at h
   ·rename_i q
    rw[List.lookup_cons] at h
    split at h
    ·rename_i e
     have e:=eq_of_beq e
     subst e
     obtain⟨c',hc⟩:=Option.isSome_iff_exists.mp (hf (n,k) (.head _) (by simpa using q))
     rw[hc] at h ⊢
     simpa using h
    ·exact ha n c h
   ·exact ha n c h
set_option tactic.hygienic true in
theorem relab_cell {sc inner:Nms}(hc:∀ p∈inner,p.2≠.cell){x:Str}(h:(relab sc inner).lookup x=some .cell):(x,NameKind.free)∈inner∧sc.lookup x=some .cell:=by
 unfold relab at h
 induction inner with
 |nil=>simp at h
 |cons p r ih=>
  obtain⟨y,k⟩:=p
  rw[List.map_cons] at h
  by_cases q:(k==NameKind.free&&sc.lookup y==some .cell)=true
  ·simp only[q,if_true] at h
   rw[List.lookup_cons] at h
   split at h
   ·rename_i e
    have e:=eq_of_beq e
    subst e
    obtain⟨q1,q2⟩:=Bool.and_eq_true_iff.mp q
    have q1:=eq_of_beq q1
    subst q1
    exact⟨.head _,eq_of_beq q2⟩
   ·obtain⟨i1,i2⟩:=ih (λp hp=>hc p (.tail _ hp)) h
    exact⟨.tail _ i1,i2⟩
  ·simp only[q] at h
   rw[List.lookup_cons] at h
   split at h
   ·cases h
    exact absurd rfl (hc _ (.head _))
   ·obtain⟨i1,i2⟩:=ih (λp hp=>hc p (.tail _ hp)) h
    exact⟨.tail _ i1,i2⟩
theorem relabel_names {scope:Scope}{env:Env}{sc:Nms}(hk:env.scope.kind=.function)(hn:env.scope.names=sc):(relabel scope env).names=relab sc scope.names:=by
 unfold relabel relab
 refine List.map_congr_left λp hp=>?_
 obtain⟨n,k⟩:=p
 have e1:(env.scope.kind==ScopeKind.function)=true:=by refine rwI hk ?_;rfl
 have e2:env.kindOf n=sc.lookup n:=by unfold Env.kindOf;(refine rwI hn ?_;rfl)
 simp only[e1,Bool.and_true,e2]
theorem mask_get:∀ (caps:List Nat)(i:Nat)(ρ:AEnv)(j:Nat)(x:AV),gv (mask caps i ρ) j=some x→caps.contains (i+j)=true∧gv ρ j=some x:=@λy_1=>@λy_2=>@λy_3=>@λy_4=>@λy_5=>@λy_6=>match @y_1,@y_2,@y_3,@y_4,@y_5,@y_6 with
 |x_1,x_2,[],x_3,x_4,h=>none_some h
 |caps,i,y::r,0,x,h=>by
  replace h:(if caps.contains i then y else Option.none)=some x:=h
  by_cases q:caps.contains i=true
  ·exact⟨q,(if_pos q).symm.trans h⟩
  ·exact none_some ((if_neg q).symm.trans h)
 |caps,i,y::r,j+1,x,h=>by
  obtain⟨h1,h2⟩:=mask_get caps (i+1) r j x h
  exact⟨by refine rwI (show i+(j+1)=i+1+j by lia) ?_;exact h1,h2⟩
section
variable {G:Glo}{C:Oracle}{n:Nat}
theorem Inv.add {X S:Nat→Prop}{H:AHeap}{h h':Heap}(i:Inv G X H h)(hk:∀ b o,h.get? b=some o→h'.get? b=some o)(hf:∀ b,S b→h.get? b=none)(hl:∀ b,S b→∃ o,h'.get? b=some o):Inv G (λb=>X b∨S b) H h' where
 objs:=λa o e=>(i.objs a o e).mono (λb ob f g=>⟨hk b ob g,f.1,λq=>q.elim f.2 λz=>by rw[hf b z] at g;cases g⟩) λob g=>hk a ob g
 base:=λb o e=>let ⟨p,q,r⟩:=i.base b o e;⟨hk _ _ p,q,λz=>z.elim r λz=>by rw[hf b z] at p;cases p⟩
 xs:=λb xb=>by
  rcases xb with xb|xb
  ·obtain⟨p,o,e⟩:=i.xs b xb;exact⟨p,o,hk _ _ e⟩
  ·exact⟨(i.free (hf b xb)).1,hl b xb⟩
 low:=i.low
theorem Inv.adopt {X X':Nat→Prop}{H:AHeap}{h:Heap}{D:Nat}{o':AObj}(i:Inv G X' H h)(s:∀ b,X b→X' b)(hD:X' D)(hX:¬ X D)(lo:mainGlobals < D)(ho:ObjRel G (Fz (upd H D o') X) h D o'):Inv G X (upd H D o') h where
 objs:=λa o e=>by
  by_cases n:a=D
  ·subst n;rw[upd_self] at e;cases e;exact ho
  ·rw[upd_ne _ n] at e
   exact (i.objs a o e).mono (λb ob f g=>⟨g,(upd_ne _ (λq=>f.2 (by refine rwI q ?_;exact hD))).trans f.1,λz=>f.2 (s b z)⟩) λob g=>g
 base:=λb o e=>let ⟨p,q,r⟩:=i.base b o e;⟨p,(upd_ne _ (λz=>r (by refine rwI z ?_;exact hD))).trans q,λz=>r (s b z)⟩
 xs:=λb xb=>by
  obtain⟨p,q⟩:=i.xs b (s b xb)
  exact⟨(upd_ne _ (λz=>hX (by refine rwS z ?_;exact xb))).trans p,q⟩
 low:=λb o e=>by
  by_cases n:b=D
  ·subst n;exact lo
  ·rw[upd_ne _ n] at e;exact i.low b o e
theorem skip_ts {env:Env}:∀ ys:List Expr,(forIn ys false λc r=>if r=true then do let ok ← isTrue c env (eval c env);pure (ForInStep.yield ok) else pure (ForInStep.yield r))=(pure false:Sem Bool):=@λy_1=>match @y_1 with
 |[]=>List.forIn_nil
 |x_1::ys=>by (refine rwI (List.forIn_cons ..) ?_;refine rwI (if_neg Bool.false_ne_true) ?_;refine rwI (pure_bind ..) ?_);exact skip_ts ys
theorem sndTs {es:List E}(h:∀ e∈es,SndT G C n e):∀ {sc:Nms}{vars:List Str}{xs:List Expr},mTs sc vars es xs=true→∀ {X:Nat→Prop}{A:Around}{env:Env}{s:Shared}{Er:Value→Shared→Prop}{ρ:AEnv}{H:AHeap}{R:Bool→AHeap→Prop},EnvOk G X env sc→AOk n A→Inv G X H s.heap→Frm G X H s.heap env vars ρ →
  wTs C es ρ H R→wpAny (model G.prog G.w) A (forIn (concs vars es xs) true λc r=>if r=true then do let ok ← isTrue c env (eval c env);pure (ForInStep.yield ok) else pure (ForInStep.yield r)) (λb s'=>∃ H',R b H'∧St G X No H s H' s') Er s:=by
 induction es with
 |nil=>exact λx_ X A env s Er ρ H R eo ao iv fr hw=>wpAny_pure ⟨H,hw,St.start iv⟩
 |cons e es ih=>
  intro sc vars xs hm X A env s Er ρ H R eo ao iv fr hw
  obtain⟨h1,h2⟩:=and2 hm
  refine (?_:wpAny _ _ (forIn (conc vars e (hd xs)::concs vars es xs.tail) true _) _ _ _)
  refine rwI (List.forIn_cons ..) ?_
  refine wpAny_bind ?_
  refine rwI (if_pos rfl) ?_
  refine wpAny_bind ((h e (.head _)).use (K:=λx_ t H=>match t with|true=>wTs C es ρ H R|false=>R false H) h1 eo ao iv fr hw λt s₁ x H₁ x_ q st iv₁ fr₁=>wpAny_pure ?_)
  cases t with
  |true=>exact wpAny_mono (ih (λe' he'=>h e' (.tail _ he')) h2 eo ao iv₁ fr₁ q) (λb s₂ ⟨H₂,q₂,st₂⟩=>⟨H₂,q₂,st.trans st₂⟩) λx_ x_ e=>e
  |false=>
   refine (?_:wpAny _ _ (forIn (concs vars es xs.tail) false _) _ _ _)
   refine rwI (skip_ts ..) ?_
   exact wpAny_pure ⟨H₁,q,st⟩
end
structure CmpOk (sc:Nms)(vars:List Str)(elt:E)(t:Tg)(k:Sk)(es tests:List E)(caps:List Nat)(ex:Expr):Prop where
 kind:(scp ex).kind=.function
 noc:∀ p∈(scp ex).names,p.2≠.cell
 loc:∀ p∈(scp ex).names,p.2=.local→(scp ex).names.lookup p.1=some .local
 fre:∀ p∈(scp ex).names,p.2=.free→sc.lookup p.1=some .cell
 tgt:tgM (relab sc (scp ex).names) vars t=true
 src:srcB sc k es=true
 ems:mEs sc vars es (srcs k (kid ex 2))=true
 nos:noSet (eSrc k (concs vars es (srcs k (kid ex 2))) (kid ex 2))=true
 nd:vars.Nodup
 tk:tgK k t=true
 el:mE (relab sc (scp ex).names) vars elt (kid ex 0)=true
 ts:mTs (relab sc (scp ex).names) vars tests ((kids ex).drop 3)=true
 cp:∀ i∈caps,∃ x,vars[i]? = some x∧(relab sc (scp ex).names).lookup x=some .cell
theorem isFunK_s {k:ScopeKind}(h:isFunK k=true):k=.function:=by
 cases k with
 |function=>rfl
 |_=>exact (Bool.false_ne_true h).elim
theorem imp_s {k k':NameKind}{b:Bool}(h:(k != k'||b)=true)(e:k=k'):b=true:=by
 rcases Bool.or_eq_true_iff.mp h with q|q
 ·exact absurd e (bne_iff_ne.mp q)
 ·exact q
theorem cap_s {vars:List Str}{sc:Nms}{i:Nat}(h:(match vars[i]? with|some x=>isC sc x|none=>false)=true):∃ x,vars[i]? = some x∧sc.lookup x=some .cell:=by
 generalize vars[i]? = o at h ⊢
 cases o with
 |none=>exact (Bool.false_ne_true h).elim
 |some x=>exact⟨x,rfl,eq_of_beq h⟩
theorem comp_s {sc:Nms}{vars:List Str}{frz:Bool}{elt:E}{t:Tg}{k:Sk}{es tests:List E}{caps:List Nat}{ex:Expr}(h:mE sc vars (.comp frz elt t k es tests caps) ex=true):CmpOk sc vars elt t k es tests caps ex:=by
 obtain⟨h1,h⟩:=and2 h
 obtain⟨h3,h⟩:=and2 h
 obtain⟨h4,h⟩:=and2 h
 obtain⟨h5,h⟩:=and2 h
 obtain⟨h6,h⟩:=and2 h
 obtain⟨h7,h⟩:=and2 h
 obtain⟨h8,h⟩:=and2 h
 obtain⟨h9,h⟩:=and2 h
 obtain⟨h10,h11⟩:=and2 h
 obtain⟨h1,h2⟩:=and2 h1
 have h2:=List.all_eq_true.mp h2
 exact⟨isFunK_s h1,λp hp=>bne_iff_ne.mp (and2 (h2 p hp)).1,λp hp e=>eq_of_beq (imp_s (and2 (and2 (h2 p hp)).2).1 e),λp hp e=>eq_of_beq (imp_s (and2 (and2 (h2 p hp)).2).2 e),h3,h4,h5,h6,nodupB_s h7,h8,h9,h10,
  λi hi=>cap_s (List.all_eq_true.mp h11 i hi)⟩
theorem folded_of {it:Expr}(h:noSet it=true)(env:Env):∀ x,foldedSetIterable it env x=pure x:=by
 intro x
 cases it<;>first|rfl|exact (Bool.false_ne_true h).elim
section
variable {G:Glo}{C:Oracle}{n:Nat}
theorem compL_drop {g:AHeap→Prop}{step:AV→AHeap→(Option AV→AHeap→Prop)→Prop}{xs:List AV}{i:Nat}{x:AV}(h:xs[i]? = some x){H:AHeap}{Q:List AV→AHeap→Prop}(hc:compL g step (xs.drop i) H Q) :
  step x H λr H'=>g H'∧compL g step (xs.drop (i+1)) H' λys H''=>Q (match r with|some y=>y::ys|none=>ys) H'':=by
 obtain⟨hi,e⟩:=List.getElem?_eq_some_iff.mp h
 rw[List.drop_eq_getElem_cons hi,e] at hc
 exact hc
theorem comp_env {sc:Nms}{inner:Scope}{X X':Nat→Prop}{env:Env}{L:Nat}{h:Heap}{vars:List Str}{H:AHeap}{ρ:AEnv}(eo:EnvOk G X env sc)(hk:inner.kind=.function)(noc:∀ p∈inner.names,p.2≠.cell)
  (fre:∀ p∈inner.names,p.2=.free→sc.lookup p.1=some .cell) (hL:X' L) (hX:∀ b,X b→X' b∧b≠L):EnvOk G X' (compEnvC inner (closL env.cells inner.names []) L env) (relab sc inner.names):=by
 have hf:∀ x∈inner.names,x.2=.free→(env.cells.lookup x.1).isSome=true:=λx hx e=>eo.hc _ (fre x hx e)
 obtain⟨c1,c2⟩:=closL_look inner.names [] hf (λn c h=>by simp at h)
 refine⟨hk,relabel_names eo.kind eo.nm,eo.gl,eo.bi,hL,λn c h=>?_,λn n' c h h'=>eo.ap n n' c (c1 n c h) (c1 n' c h'),λn h=>?_,eo.cr⟩
 ·exact hX c (eo.xc n c (c1 n c h)).1
 ·exact c2 n (.inl (relab_cell noc h).1)
theorem comp_frm {sc:Nms}{inner:Scope}{X X':Nat→Prop}{env:Env}{L:Nat}{h h':Heap}{vars:List Str}{H:AHeap}{ρ:AEnv}{caps:List Nat}{m:Str→Option Value}(eo:EnvOk G X env sc)(noc:∀ p∈inner.names,p.2≠.cell)
  (fre:∀ p∈inner.names,p.2=.free→sc.lookup p.1=some .cell) (cp:∀ i∈caps,∃ x,vars[i]? = some x∧(relab sc inner.names).lookup x=some .cell)
  (fr:Frm G X H h env vars ρ) (hk:∀ b o,h.get? b=some o→h'.get? b=some o) (hX:∀ b,X' b→X b∨h.get? b=none) (hn:h'.Ns L m) :
  Frm G X' H h' (compEnvC inner (closL env.cells inner.names []) L env) vars (mask caps 0 ρ):=by
 have hf:∀ x∈inner.names,x.2=.free→(env.cells.lookup x.1).isSome=true:=λx hx e=>eo.hc _ (fre x hx e)
 obtain⟨c1,c2⟩:=closL_look inner.names [] hf (λn c h=>by simp at h)
 have kc:∀ {c v},h.IsCell c v→h'.IsCell c v:=λ⟨o,e,d⟩=>⟨o,hk _ o e,d⟩
 refine⟨⟨m,hn,λi x e=>?_⟩,λn c l=>let ⟨v,q⟩:=fr.cells n c (c1 n c l);⟨v,kc q⟩⟩
 obtain⟨e1,e2⟩:=mask_get caps 0 ρ i x e
 rw[Nat.zero_add] at e1
 obtain⟨y,hy,hc⟩:=cp i (List.contains_iff_mem.mp e1)
 obtain⟨m₀,_,hv⟩:=fr.ns
 obtain⟨nm,v,a1,a2,a3⟩:=hv i x e2
 rw[hy] at a1;(replace a1:=Option.some.inj a1;subst a1)
 obtain⟨r1,r2⟩:=relab_cell noc hc
 have ek:env.kindOf y=some .cell:=by unfold Env.kindOf;refine rwI eo.nm ?_;exact r2
 refine⟨y,v,hy,?_,a3.mono λb o f g=>⟨hk b o g,f.1,λq=>(hX b q).elim f.2 λz=>by rw[z] at g;exact none_some g⟩⟩
 cases a2 with
 |loc k _=>rw[ek] at k;exact absurd k (by decide)
 |cell k l q=>
  obtain⟨c',hc'⟩:=Option.isSome_iff_exists.mp (c2 y (.inl r1))
  have:=c1 y c' hc'
  rw[l] at this;cases this
  refine .cell ?_ hc' (kc q)
  refine (?_:(relabel inner env).names.lookup y=some .cell)
  refine rwI (relabel_names eo.kind eo.nm) ?_;exact hc
theorem Frm.weak {X:Nat→Prop}{H:AHeap}{h:Heap}{env:Env}{vars:List Str}{ρ ρ':AEnv}(f:Frm G X H h env vars ρ)(hw:∀ j x,gv ρ' j=some x→gv ρ j=some x):Frm G X H h env vars ρ':=
 let ⟨⟨m,hn,hv⟩,hc⟩:=f
 ⟨⟨m,hn,λj x e=>hv j x (hw j x e)⟩,hc⟩
theorem gv_svs_ne:∀ (ns:List Nat)(xs:List AV)(ρ:AEnv)(j:Nat),j ∉ ns→gv (svs ρ ns xs) j=gv ρ j:=@λy_1=>@λy_2=>@λy_3=>@λy_4=>@λy_5=>match @y_1,@y_2,@y_3,@y_4,@y_5 with
 |[],x_1,x_2,x_3,x_4=>rfl
 |n::ns,[],x_1,x_2,x_3=>rfl
 |n::ns,x::xs,ρ,j,h=>(gv_svs_ne ns xs _ j λq=>h (.tail _ q)).trans (gv_sv_ne ρ n j _ λq=>h (q ▸ .head _))
theorem assign_tg {X:Nat→Prop}{A:Around}{env:Env}{s:Shared}{Er:Value→Shared→Prop}{sc:Nms}{vars:List Str}{ρ ρ':AEnv}{H:AHeap}{t:Tg}{tg:Expr}{x:AV}{v:Value}{Q:Unit→Shared→Prop}(hh:A.handled=none)(eo:EnvOk G X env sc)(nd:vars.Nodup)(hm:tgM sc vars t=true)
  (iv:Inv G X H s.heap) (fr:Frm G X H s.heap env vars ρ) (rv:VRel G (Fz H X) s.heap x v) (hb:bindT H ρ t x=some ρ') (hcap:∀ j y,gv ρ j=some y→∃ nm,vars[j]? = some nm∧sc.lookup nm=some .cell)
  (h:∀ s',St G X (λb=>b=env.locals) H s H s'→Frm G X H s'.heap env vars ρ'→Frm G X H s'.heap env vars ρ→Q () s'):wpAny (model G.prog G.w) A (assign (eTg vars t tg) env v) Q Er s:=by
 have hOX:∀ b,(λb=>b=env.locals) b→X b:=λb e=>by have e:b=env.locals:=e;refine rwI e ?_;exact eo.xl
 have loc:∀ {k:Nat},(varIs vars k (nmOf vars k)&&isL sc (nmOf vars k))=true→(varOk sc vars k=true∧StO (λb=>b=env.locals) env sc (nmOf vars k))∧∀ j y,gv ρ j=some y→j≠k:=λ{k} hk=>by
  obtain⟨h1,h2⟩:=and2 hk
  have hy:sc.lookup (nmOf vars k)=some .local:=eq_of_beq h2
  refine⟨⟨Bool.and_eq_true_iff.mpr ⟨h1,by refine rwI h2 ?_;rfl⟩,λx_=>rfl,λc hc=>by rw[hy] at hc;exact nomatch hc⟩,?_⟩
  rintro j y e rfl
  obtain⟨nm,a1,a2⟩:=hcap j y e
  rw[(varIs_s h1).1] at a1
  rw[← Option.some.inj a1,hy] at a2;exact nomatch a2
 cases t with
 |one k=>
  obtain⟨⟨h1,h2⟩,h3⟩:=loc hm
  cases hb
  exact assign_name eo iv fr nd hOX h1 h2 rv λs' st' fr'=>h s' st' fr' (fr'.weak λj z e=>by refine rwI (gv_sv_ne _ _ _ _ (h3 j z e)) ?_;exact e)
 |many ns=>
  have hm:=List.all_eq_true.mp hm
  replace hb:(unpackOf H ns.length x).map (svs ρ ns)=some ρ':=hb
  obtain⟨xs,hu,rfl⟩:=Option.map_eq_some_iff.mp hb
  exact assign_tuple hh eo nd hOX (λk hk=>(loc (hm k hk)).1) iv fr rv hu λs' st' fr'=>h s' st' fr' (fr'.weak λj z e=>by refine rwI (gv_svs_ne _ _ _ _ λhj=>(loc (hm j hj)).2 j z e rfl) ?_;exact e)
end
section
variable {G:Glo}{C:Oracle}{n:Nat}
noncomputable def Acc (G:Glo) (X:Nat→Prop) (H:AHeap) (h:Heap) (D:Nat) (ys:List AV) (m:Nat):Prop:=
 ∃ vs k,h.get? D=some { cls:=.type "list",data:=.seq vs.toArray k }∧VRels G (Fz H X) h ys vs∧vs.length≤m
theorem Acc.step {X O:Nat→Prop}{H H':AHeap}{h h':Heap}{D m:Nat}{ys:List AV}(a:Acc G X H h D ys m)(st:Steps O H h H' h')(hO:∀ b,O b→X b)(hH:H D=none)(hD:¬ O D):Acc G X H' h' D ys m:=by
 obtain⟨vs,k,g,rs,hl⟩:=a
 exact⟨vs,k,(st D _ g hH hD).1,rs.step st hO,hl⟩
theorem Acc.stp {X W:Nat→Prop}{H:AHeap}{s s':Shared}{D m:Nat}{ys:List AV}(a:Acc G X H s.heap D ys m)(st:Stp W s s')(hW:∀ b,W b→X b)(hD:¬ W D):Acc G X H s'.heap D ys m:=by
 obtain⟨vs,k,g,rs,hl⟩:=a
 exact⟨vs,k,st.keep D _ hD g,rs.mono (st.fz hW),hl⟩
theorem Frm.stp {X W:Nat→Prop}{H:AHeap}{s s':Shared}{env:Env}{vars:List Str}{ρ:AEnv}(f:Frm G X H s.heap env vars ρ)(x:Stp W s s')(hW:∀ b,W b→X b)(hl:¬ W env.locals)(hc:∀ n c,env.cells.lookup n=some c→¬ W c):Frm G X H s'.heap env vars ρ:=by
 obtain⟨⟨m,hn,hv⟩,hcs⟩:=f
 have kc:∀ {n c v},env.cells.lookup n=some c→s.heap.IsCell c v→s'.heap.IsCell c v:=λl ⟨o,e,d⟩=>⟨o,x.keep _ o (hc _ _ l) e,d⟩
 refine⟨⟨m,?_,λj y e=>?_⟩,λn c l=>let ⟨v,q⟩:=hcs n c l;⟨v,kc l q⟩⟩
 ·obtain⟨o,es,ep,ho,r⟩:=hn
  exact⟨o,es,ep,x.keep _ o hl ho,r⟩
 ·obtain⟨nm,v,e1,e2,e3⟩:=hv j y e
  refine⟨nm,v,e1,?_,e3.mono (x.fz hW)⟩
  cases e2 with
  |loc k q=>exact .loc k q
  |cell k l q=>exact .cell k l (kc l q)
theorem Stp.st {X W O:Nat→Prop}{H:AHeap}{s s':Shared}(x:Stp W s s')(i:Inv G X H s.heap)(hW:∀ b,W b→X b)(hO:∀ b,W b→O b):St G X O H s H s':=
 ⟨x.inv i hW,λb o e q n=>⟨x.keep b o (λw=>n (hO b w)) e,q⟩,x.same⟩
noncomputable def cstep (C:Oracle) (elt:E) (t:Tg) (tests:List E) (ρ:AEnv) (x:AV) (H:AHeap) (K:Option AV→AHeap→Prop):Prop:=ok (bindT H ρ t x) λρ'=>wTs C tests ρ' H λb H=>match b with
 |true=>wE C elt ρ' H λy H=>K (some y) H
 |false=>K Option.none H
structure CC (G:Glo)(C:Oracle)(n:Nat)(sc:Nms)(vars:List Str)(elt:E)(t:Tg)(tests:List E)(A:Around)(env:Env)(X W:Nat→Prop)(D:Nat)(p:List AV×Option Nat)(J:AHeap→Heap→Nat→Prop)(itv:Value)(tup:Bool)(ρ:AEnv)(xe:Expr)(xts:List Expr):Prop where
 hel:SndE G C n elt
 hts:∀ e∈tests,SndT G C n e
 el:mE sc vars elt xe=true
 ts:mTs sc vars tests xts=true
 nd:vars.Nodup
 tgt:tgM sc vars t=true
 tk:tup=true→∃ ns,t=.many ns
 eo:EnvOk G X env sc
 ao:AOk n A
 itr:Itr G A X itv tup (guardOf p.1 p.2) p.1 W J
 ln:p.1.length≤1048576
 xd:X D
 wd:¬ W D
 wl:¬ W env.locals
 dl:D≠env.locals
 wc:∀ nm c,env.cells.lookup nm=some c→¬ W c∧c≠D
 cap:∀ j y,gv ρ j=some y→∃ nm,vars[j]? = some nm∧sc.lookup nm=some .cell
noncomputable def OO (W:Nat→Prop) (D:Nat) (env:Env) (b:Nat):Prop:=W b∨b=D∨b=env.locals
noncomputable def CL (C:Oracle) (elt:E) (t:Tg) (tests:List E) (ρ:AEnv) (p:List AV×Option Nat) (frz:Bool) (R:AV→AHeap→Prop) (i:Nat) (ys:List AV) (H:AHeap):Prop:=compL (guardOf p.1 p.2) (cstep C elt t tests ρ) (p.1.drop i) H λzs H'=>newL frz (ys++zs) H' R
theorem CL.app {C:Oracle}{elt:E}{t:Tg}{tests:List E}{ρ:AEnv}{p:List AV×Option Nat}{frz:Bool}{R:AV→AHeap→Prop}{i:Nat}{ys:List AV}{y:AV}{H:AHeap}(h:compL (guardOf p.1 p.2) (cstep C elt t tests ρ) (p.1.drop i) H λzs H'=>newL frz (ys++y::zs) H' R):CL C elt t tests ρ p frz R i (ys++[y]) H:=by
 unfold CL;simpa only[List.append_assoc,List.singleton_append] using h
inductive LI (G:Glo)(C:Oracle)(vars:List Str)(elt:E)(t:Tg)(tests:List E)(env:Env)(X W:Nat→Prop)(D:Nat)(p:List AV×Option Nat)(J:AHeap→Heap→Nat→Prop)(ρ:AEnv)(frz:Bool)(R:AV→AHeap→Prop)(H₁:AHeap)(s₁:Shared)(m:Nat)(s:Shared):Prop
 |mk (i:Nat) (H:AHeap) (ys:List AV):i≤p.1.length→m=p.1.length+1 - i→CL C elt t tests ρ p frz R i ys H→St G X (OO W D env) H₁ s₁ H s→J H s.heap i→Acc G X H s.heap D ys i→Frm G X H s.heap env vars ρ→LI G C vars elt t tests env X W D p J ρ frz R H₁ s₁ m s
section
variable {sc:Nms}{vars:List Str}{elt:E}{t:Tg}{tests:List E}{A:Around}{env:Env}{X W:Nat→Prop}{D:Nat}{p:List AV×Option Nat}{J:AHeap→Heap→Nat→Prop}{itv:Value}{tup:Bool}{ρ ρ':AEnv}{xe tgx:Expr}{xts:List Expr}{frz:Bool}{R:AV→AHeap→Prop}{H H₁:AHeap}{s s₁ s₆ s₇:Shared}{i m:Nat}{ys:List AV}
theorem CC.keepJ (c:CC G C n sc vars elt t tests A env X W D p J itv tup ρ xe xts)(j:J H s₆.heap (i+1))(iv:Inv G X H s₆.heap){H₈:AHeap}{s₈:Shared}(st:St G X (λb=>b=env.locals) H s₆ H₈ s₈)(hg:guardOf p.1 p.2 H₈):J H₈ s₈.heap (i+1):=
 c.itr.keep j (λb o w e=>(st.steps b o e (iv.xs b (c.itr.sub b w)).1 λq=>c.wl ((q:b=env.locals) ▸ w)).1) (st.steps.mv λb q=>(q:b=env.locals) ▸ c.eo.xl) st.inv hg
theorem Acc.app {X:Nat→Prop}{h:Heap}{x:AV}{v:Value}(a:Acc G X H h D ys i)(r:VRel G (Fz H X) h x v)(hi:i < 1048576)(xd:X D){s:Shared}(hs:s.heap=h){Q:Value→Shared→Prop}{Er:Value→Shared→Prop}
  (k:∀ h',Stp (λb=>b=D) s { s with heap:=h' }→Acc G X H h' D (ys++[x]) (i+1)→Q .none { s with heap:=h' }):wpAny (model G.prog G.w) A (call (.builtin "list.append") [.ref D,v]) Q Er s:=by
 subst hs
 obtain⟨vs,kD,gD,rs,hl⟩:=a
 refine wpAny_list_append_plain (items:=vs.toArray) ⟨kD,gD⟩ (λh' pz hs'=>?_) (by (refine rwI List.size_toArray ?_;refine rwI sizeLine_eq ?_);lia)
 obtain⟨k',g'⟩:=pz
 have stp:Stp (λb=>b=D) s { s with heap:=h' }:=Stp.but rfl hs' ⟨_,g'⟩
 exact k h' stp ⟨vs++[v],k',by simpa using g',(rs.append (.cons r .nil)).mono (stp.fz λb q=>(q:b=D) ▸ xd),by refine rwI List.length_append ?_;exact Nat.add_le_add_right hl 1⟩
theorem comp_body (c:CC G C n sc vars elt t tests A env X W D p J itv tup ρ xe xts){Rr:Result→Shared→Prop}(hi:i < p.1.length)(em:m=p.1.length+1 - i)(hb:wTs C tests ρ' H λb H=>match b with
   |true=>wE C elt ρ' H λy H=>guardOf p.1 p.2 H∧compL (guardOf p.1 p.2) (cstep C elt t tests ρ) (p.1.drop (i+1)) H λzs H'=>newL frz (ys++y::zs) H' R
   |false=>guardOf p.1 p.2 H∧CL C elt t tests ρ p frz R (i+1) ys H)
  (st6:St G X (OO W D env) H₁ s₁ H s₆) (j6:J H s₆.heap (i+1)) (st7:St G X (λb=>b=env.locals) H s₆ H s₇) (fr:Frm G X H s₇.heap env vars ρ') (fr':Frm G X H s₇.heap env vars ρ) (acc:Acc G X H s₇.heap D ys i) :
  CB (model G.prog G.w) A env (conc vars elt xe) (concs vars tests xts) (.ref D) Rr (λs=>∃ k,k < m∧LI G C vars elt t tests env X W D p J ρ frz R H₁ s₁ k s) s₇:=by
 have LO:∀ b,(λb=>b=env.locals) b→OO W D env b:=λb q=>.inr (.inr q)
 have hD:∀ {H:AHeap} {s:Shared},Inv G X H s.heap→H D=none:=λiv=>(iv.xs D c.xd).1
 have nxt:p.1.length+1 - (i+1) < m:=em ▸ Nat.sub_lt_sub_left (Nat.lt_succ_of_lt hi) (Nat.lt_succ_self i)
 refine wpAny_mono (sndTs c.hts c.ts c.eo c.ao st7.inv fr hb) (λb s₈ pv=>Classical.byContradiction λhn=>?_) λx_ x_ e=>e
 obtain⟨H₈,hb8,st8⟩:=pv
 have acc8:=acc.step st8.steps (λx_ q=>q.elim) (hD st7.inv) id
 have st68:St G X (λb=>b=env.locals) H s₆ H₈ s₈:=st7.trans (st8.weak λx_ q=>q.elim)
 have fr8:=fr'.st st7.inv c.eo st8
 cases b with
 |false=>
  obtain⟨vs,kD,gD,rs,hl⟩:=acc8
  exact hn ⟨_,nxt,i+1,H₈,ys,hi,rfl,hb8.2,st6.trans (st68.weak LO),c.keepJ j6 st6.inv st68 hb8.1,⟨vs,kD,gD,rs,Nat.le_succ_of_le hl⟩,fr8⟩
 |true=>
  refine hn ?_
  clear hn
  refine c.hel.use c.el c.eo c.ao st8.inv (fr.st st7.inv c.eo st8) hb8 λy s₉ x H₉ q st9 ry iv9 x_=>?_
  have st69:St G X (λb=>b=env.locals) H s₆ H₉ s₉:=st68.trans (st9.weak λx_ q=>q.elim)
  refine (acc8.step st9.steps (λx_ q=>q.elim) (hD st8.inv) id).app ry (Nat.lt_of_lt_of_le hi c.ln) c.xd rfl λh' stp acc'=>?_
  have subD:∀ b,(λb=>b=D) b→X b:=λb q=>(q:b=D) ▸ c.xd
  have stD:St G X (λb=>b=D) H₉ s₉ H₉ { s₉ with heap:=h' }:=stp.st iv9 subD λx_ q=>q
  exact⟨_,nxt,i+1,H₉,ys++[x],hi,rfl,CL.app q.2,(st6.trans (st69.weak LO)).trans (stD.weak λb q=>.inr (.inl q)),c.itr.keep (c.keepJ j6 st6.inv st69 q.1) (λb o w e=>stp.keep b o (λq=>c.wd ((q:b=D) ▸ w)) e) (stp.fz subD) stD.inv q.1,acc',
   (fr8.st st8.inv c.eo st9).stp stp subD (λq=>c.dl (q:env.locals=D).symm) λnm d hd q=>(c.wc nm d hd).2 q⟩
set_option tactic.hygienic true in
theorem comp_turn (c:CC G C n sc vars elt t tests A env X W D p J itv tup ρ xe xts){Rr:Result→Shared→Prop}(I:LI G C vars elt t tests env X W D p J ρ frz R H₁ s₁ m s)
  (fin:∀ H ys s s',newL frz ys H R→St G X (OO W D env) H₁ s₁ H s→Acc G X H s.heap D ys p.1.length→Frm G X H s.heap env vars ρ→Fin' W s s'→Rr (.ok .next) s') :
  wpAny (model G.prog G.w) A (pyNext itv) (λr s₂=>match r with
   |none=>Rr (.ok .next) s₂
   |some v=>wpAny (model G.prog G.w) A (letOwnedTupleGo (eTg vars t tgx) itv v) (λx_ s₃=>wpAny (model G.prog G.w) A (assign (eTg vars t tgx) env v) (λx_ s₄=>CB (model G.prog G.w) A env (conc vars elt xe) (concs vars tests xts) (.ref D) Rr (λs=>∃ k,k < m∧LI G C vars elt t tests env X W D p J ρ frz R H₁ s₁ k s) s₄) (CE (model G.prog G.w) A env Rr) s₃) (CE (model G.prog G.w) A env Rr) s₂) (CE (model G.prog G.w) A env Rr) s:=by
 refine Classical.byContradiction λhn=>?_
 obtain⟨i,H,ys,hi,em,hc,st,j,acc,fr⟩:=I
 by_cases hlt:i < p.1.length
 ·obtain⟨x,hx⟩:∃ x,p.1[i]? = some x:=⟨_,List.getElem?_eq_getElem hlt⟩
  obtain⟨ρ',hb,hc⟩:=ok_ex (compL_drop hx hc)
  have htg:isTgt (eTg vars t tgx)=true∧(tup=true→isTupT (eTg vars t tgx)=true):=by
   cases ht:t with
   |one _=>exact⟨rfl,λz=>by obtain⟨_,z⟩:=c.tk z;rw[ht] at z;exact nomatch z⟩
   |many _=>exact⟨rfl,λx_=>rfl⟩
  refine hn (c.itr.turn hx st.inv j htg.1 htg.2 λv s₆ rv j6 stp=>?_)
  clear hn
  have iv6:=stp.inv st.inv c.itr.sub
  refine assign_tg c.ao.hd c.eo c.nd c.tgt iv6 (fr.stp stp c.itr.sub c.wl λnm d hd=>(c.wc nm d hd).1) rv hb c.cap λs₇ st7 fr7 fr7'=>?_
  exact comp_body c hlt em (ys:=ys) hc (st.trans (stp.st st.inv c.itr.sub λb q=>.inl q)) j6 st7 fr7 fr7' ((acc.stp stp c.itr.sub c.wd).step st7.steps (λb q=>(q:b=env.locals) ▸ c.eo.xl) (st.inv.xs D c.xd).1 c.dl)
 ·obtain rfl:i=p.1.length:=Nat.le_antisymm hi (Nat.le_of_not_lt hlt)
  unfold CL at hc
  rw[List.drop_length,compL_nil,List.append_nil] at hc
  exact hn (c.itr.done st.inv j λs' hf=>fin H ys s s' hc st acc fr hf)
end
structure CF (G:Glo)(X W:Nat→Prop)(D:Nat)(env:Env)(H:AHeap)(s:Shared)(H₁:AHeap)(s₁ s₄:Shared):Prop where
 st:St G X No H s H₁ s₁
 keep:∀ b o,s₁.heap.get? b=some o→s₄.heap.get? b=some o
 same:Same s₁ s₄
 new:∀ b,OO W D env b→s₁.heap.get? b=none
 live:∀ b,OO W D env b→∃ o,s₄.heap.get? b=some o
 dl:D≠env.locals
 wd:¬ W D
 wl:¬ W env.locals
 lo:mainGlobals < D
abbrev XO (X W:Nat→Prop)(D:Nat)(env:Env)(b:Nat):Prop:=X b∨OO W D env b
section
variable {X W:Nat→Prop}{D:Nat}{env:Env}{H H' H₁:AHeap}{s s' s₁ s₄ s₅:Shared}{R:AV→AHeap→Prop}{frz:Bool}{ys:List AV}
theorem CF.nx (c:CF G X W D env H s H₁ s₁ s₄){b:Nat}(h:OO W D env b):¬ X b:=λq=>by obtain⟨o,g⟩:=(c.st.inv.xs b q).2;exact none_some ((c.new b h).symm.trans g)
theorem CF.old (c:CF G X W D env H s H₁ s₁ s₄){b:Nat}{o:Obj}(g:s.heap.get? b=some o)(q:H b=none):s₁.heap.get? b=some o∧H₁ b=none∧¬ OO W D env b:=
 have k:=c.st.steps b o g q id
 ⟨k.1,k.2,λz=>none_some ((c.new b z).symm.trans k.1)⟩
theorem CF.hX (c:CF G X W D env H s H₁ s₁ s₄)(b:Nat)(h:XO X W D env b):X b∨s₁.heap.get? b=none:=h.imp id (c.new b)
theorem comp_end (c:CF G X W D env H s H₁ s₁ s₄){vars:List Str}{ρ:AEnv}{m:Nat}{P:Shared→Prop}(hR:newL frz ys H' R)(st:St G (XO X W D env) (OO W D env) H₁ s₄ H' s')(acc:Acc G (XO X W D env) H' s'.heap D ys m)(hm:m≤1048576)(fr:Frm G (XO X W D env) H' s'.heap env vars ρ)(hf:Fin' W s' s₅)
  (fin:∀ H' s' x,R x H'→(∀ o,s.heap.get? env.locals=some o→H env.locals≠none)→¬ X env.locals→St G (λb=>X b∨b=env.locals) No H s H' s'→VRel G (Fz H' (λb=>X b∨b=env.locals)) s'.heap x (.ref D)→(∃ m,s'.heap.Ns env.locals m)→P s'):P s₅:=by
 obtain⟨vs,kD,gD,rs,hl⟩:=acc
 have gD5:=hf.keep D _ c.wd gD
 have OL:OO W D env env.locals:=.inr (.inr rfl)
 have OD:OO W D env D:=.inr (.inl rfl)
 have wx:∀ b,X b→¬ W b:=λb q z=>c.nx (.inl z) q
 have XLD:¬ (X D∨D=env.locals):=λq=>q.elim (c.nx OD) c.dl
 have hHD:=(st.inv.xs D (.inr OD)).1
 have up:∀ b,(X b∨b=env.locals)→XO X W D env b∧¬ W b:=λb q=>q.elim (λq=>⟨.inl q,wx b q⟩) λq=>q ▸ ⟨.inr OL,c.wl⟩
 have fz:∀ {b:Nat},Fz H' (XO X W D env) b→¬ W b∧b≠D∧¬ (X b∨b=env.locals):=λf=>⟨λq=>f.2 (.inr (.inl q)),λq=>f.2 (.inr (.inr (.inl q))),λq=>f.2 (up _ q).1⟩
 have old:∀ b o,s.heap.get? b=some o→H b=none→s₅.heap.get? b=some o∧H' b=none∧b≠D:=λb o g q=>
  have k:=c.old g q
  have k2:=st.steps b o (c.keep b o k.1) k.2.1 k.2.2
  ⟨hf.keep b o (λz=>k.2.2 (.inl z)) k2.1,k2.2,λz=>k.2.2 (.inr (.inl z))⟩
 have nsL:∃ m,s₅.heap.Ns env.locals m:=by
  obtain⟨⟨m,⟨o,es,ep,ho,r⟩,_⟩,_⟩:=fr
  exact⟨m,o,es,ep,hf.keep _ o c.wl ho,r⟩
 have smf:Same s s₅:=(c.st.same.trans c.same).trans (st.same.trans hf.same)
 have fin:=λH' x hR st rx=>fin H' s₅ x hR (λo g q=>(c.old g q).2.2 OL) (c.nx OL) st rx nsL
 cases frz with
 |true=>exact fin H' (.lst ys) hR ⟨hf.inv st.inv (λb q=>.inr (.inl q)) up,λb o g q x_=>⟨(old b o g q).1,(old b o g q).2.1⟩,smf⟩ (.lst (n:=kD) ⟨hHD,XLD⟩ gD5 (Nat.le_trans hl hm) (rs.mono λb o f g=>⟨hf.keep b o (fz f).1 g,f.1,(fz f).2.2⟩))
 |false=>
  refine fin (upd H' D (.list ys)) (.ref D) (hR D hHD) ⟨(hf.inv (X₀:=XO X (λx_=>False) D env) st.inv (λb q=>.inr (.inl q)) λb q=>?_).adopt (λb q=>q.imp id λq=>.inr (.inr q)) (.inr (.inr (.inl rfl))) XLD c.lo ⟨vs,kD,gD5,Nat.le_trans hl hm,rs.mono λb o f g=>⟨hf.keep b o (fz f).1 g,(upd_ne _ (fz f).2.1).trans f.1,(fz f).2.2⟩⟩,λb o g q x_=>⟨(old b o g q).1,(upd_ne _ (old b o g q).2.2).trans (old b o g q).2.1⟩,smf⟩ (.ref D)
  rcases q with q|q|q|q
  ·exact⟨.inl q,wx b q⟩
  ·exact q.elim
  ·refine rwI q ?_;exact⟨.inr OD,c.wd⟩
  ·refine rwI q ?_;exact⟨.inr OL,c.wl⟩
end
set_option tactic.hygienic true in
theorem comp_start {sc:Nms}{vars:List Str}{frz:Bool}{elt:E}{t:Tg}{k:Sk}{es tests:List E}{caps:List Nat}{ex:Expr}{X W:Nat→Prop}{A:Around}{env cenv:Env}{s s₁ s₄:Shared}{ρ:AEnv}{H H₁:AHeap}{R:AV→AHeap→Prop}{D L:Nat}{p:List AV×Option Nat}{J:(Nat→Prop)→AHeap→Heap→Nat→Prop}{itv:Value}{m:Str→Option Value}
  {Post:Result→Shared→Prop} (hel:SndE G C n elt) (hts:∀ e∈tests,SndT G C n e) (ck:CmpOk sc vars elt t k es tests caps ex) (eo:EnvOk G X env sc) (ao:AOk n A) (fr:Frm G X H₁ s₁.heap env vars ρ) (hc:cenv=compEnvC (scp ex) (closL env.cells (scp ex).names []) L env) (c:CF G X W D cenv H s H₁ s₁ s₄)
  (hln:p.1.length≤1048576) (hP:compL (guardOf p.1 p.2) (cstep C elt t tests (mask caps 0 ρ)) p.1 H₁ λys H=>newL frz ys H R) (gD:s₄.heap.get? D=some { cls:=.type "list",dict:=none,data:=.seq ([]:List Value).toArray }) (ns:s₄.heap.Ns L m)
  (hJ:∀ X':Nat→Prop,(∀ b,W b→X' b)→(∀ b,X' b→X b∨s₁.heap.get? b=none)→Itr G A X' itv (tupK k) (guardOf p.1 p.2) p.1 W (J X')∧J X' H₁ s₄.heap 0)
  (fin:∀ H' s' x,R x H'→(∀ o,s.heap.get? cenv.locals=some o→H cenv.locals≠none)→¬ X cenv.locals→St G (λb=>X b∨b=cenv.locals) No H s H' s'→VRel G (Fz H' (λb=>X b∨b=cenv.locals)) s'.heap x (.ref D)→(∃ m,s'.heap.Ns cenv.locals m)→Post (.ok .next) s') :
  codeAny (model G.prog G.w) A (.compStart (conc vars (.comp frz elt t k es tests caps) ex) 0 itv (.ref D) cenv) Post s₄:=by
 have hXL:∀ b,X b→XO X W D cenv b∧b≠L:=λb q=>⟨.inl q,λe=>c.nx (.inr (.inr (by (refine rwI e ?_;refine rwI hc ?_);rfl))) q⟩
 have hf:∀ x∈(scp ex).names,x.2=.free→(env.cells.lookup x.1).isSome=true:=λx hx e=>eo.hc _ (ck.fre x hx e)
 have eo':EnvOk G (XO X W D cenv) cenv (relab sc (scp ex).names):=by
  have:=comp_env (X':=XO X W D cenv) eo ck.kind ck.noc ck.fre (.inr (.inr (.inr (by refine rwI hc ?_;rfl)))) (h:=s₄.heap) (vars:=vars) (H:=H₁) (ρ:=ρ) hXL
  rw[← hc] at this;exact this
 have fr₄:Frm G (XO X W D cenv) H₁ s₄.heap cenv vars (mask caps 0 ρ):=by
  have:=comp_frm (X':=XO X W D cenv) eo ck.noc ck.fre ck.cp fr c.keep c.hX ns
  rw[← hc] at this;exact this
 obtain⟨itr,j0⟩:=hJ (XO X W D cenv) (λb q=>.inr (.inl q)) c.hX
 have cc:CC G C n (relab sc (scp ex).names) vars elt t tests A cenv (XO X W D cenv) W D p (J (XO X W D cenv)) itv (tupK k) (mask caps 0 ρ) (kid ex 0) ((kids ex).drop 3):=
  ⟨hel,hts,ck.el,ck.ts,ck.nd,ck.tgt,λh=>by
   have:=ck.tk
   cases t with
   |many ns=>exact⟨ns,rfl⟩
   |one _=>cases k<;>first|exact (Bool.false_ne_true h).elim|exact (Bool.false_ne_true this).elim,eo',ao,itr,hln,.inr (.inr (.inl rfl)),c.wd,c.wl,c.dl,λnm d hd=>by
   have:X d:=(eo.xc nm d ((closL_look (scp ex).names [] hf (λn c h=>nomatch h)).1 nm d (by rw[hc] at hd;exact hd))).1
   exact⟨λz=>c.nx (.inl z) this,λz=>c.nx (.inr (.inl z)) this⟩,λj y q=>ck.cp j (by
    have:=(mask_get caps 0 ρ j y q).1
    rw[Nat.zero_add] at this
    exact List.contains_iff_mem.mp this)⟩
 have loop:codeAny (model G.prog G.w) A (.compLoop (conc vars (.comp frz elt t k es tests caps) ex) 0 itv (.ref D) cenv) Post s₄:=
  comp_loop (λm s'=>LI G C vars elt t tests cenv (XO X W D cenv) W D p (J (XO X W D cenv)) (mask caps 0 ρ) frz R H₁ s₄ m s') (λm s' I=>comp_turn cc I λH' ys s' s₅ hR st acc fr hf=>comp_end c hR st acc hln fr hf fin) (p.1.length+1)
   ⟨0,H₁,[],Nat.zero_le _,rfl,by unfold CL;refine rwI List.drop_zero ?_;exact hP,St.start (c.st.inv.add c.keep c.new c.live),j0,⟨[],0,gD,.nil,Nat.le_refl _⟩,fr₄⟩
 exact codeAny_compStart_list loop (itr.self j0 loop)
set_option tactic.hygienic true in
theorem comp_core {sc:Nms}{vars:List Str}{frz:Bool}{elt:E}{t:Tg}{k:Sk}{es tests:List E}{caps:List Nat}{ex:Expr}{pos:Pos}{X:Nat→Prop}{A:Around}{env:Env}{s:Shared}{Er:Value→Shared→Prop}{ρ:AEnv}{H:AHeap}{R:AV→AHeap→Prop}
  {Post:Value→Addr→Result→Shared→Prop} (gk:GOk G) (hel:SndE G C n elt) (hts:∀ e∈tests,SndT G C n e) (hes:∀ e∈es,SndE G C n e) (ck:CmpOk sc vars elt t k es tests caps ex)
  (eo:EnvOk G X env sc) (ao:AOk n A) (iv:Inv G X H s.heap) (fr:Frm G X H s.heap env vars ρ) (hw:wE C (.comp frz elt t k es tests caps) ρ H R)
  (fin:∀ D L H' s' x,R x H'→(∀ o,s.heap.get? L=some o→H L≠none)→¬ X L→St G (λb=>X b∨b=L) No H s H' s'→VRel G (Fz H' (λb=>X b∨b=L)) s'.heap x (.ref D)→(∃ m,s'.heap.Ns L m)→Post (.ref D) L (.ok .next) s') :
  wpAny (model G.prog G.w) A (eval (eSrc k (concs vars es (srcs k (kid ex 2))) (kid ex 2)) env) (λxv s₁=>wpAny (model G.prog G.w) A (pyIter xv) (λitv s₂=>wpAny (model G.prog G.w) A (newList []) (λacc s₃=>
   wpAny (model G.prog G.w) A (newFunctionEnv (scp ex) env.globals (closL env.cells (scp ex).names []) [] env.qual none .none (some env)) (λcenv s₄=>
    codeAny (model G.prog G.w) A (.compStart (conc vars (.comp frz elt t k es tests caps) ex) 0 itv acc { cenv with scope:=relabel (scp ex) env }) (Post acc cenv.locals) s₄) Er s₃) Er s₂) Er s₁) Er s:=by
 refine wpAny_mono (iter_ok (P:=λp H=>compL (guardOf p.1 p.2) (cstep C elt t tests (mask caps 0 ρ)) p.1 H λys H=>newL frz ys H R) gk hes ck.src ck.ems eo ao iv fr hw) (λxv s₁ h₁=>wpAny_mono h₁ (λitv s₂ h₂=>?_) λx_ x_ e=>e) λx_ x_ e=>e
 refine wpAny_newObj_type (wpAny_newFunctionEnv (λy hy=>ck.noc y hy) (λy hy=>nomatch hy) (λh₄ hns hsb=>?_) ck.kind)
 obtain⟨p,H₁,s₁',W,J,hP,hplen,st₁,hk12,hs12,hWf,hWl,hJ⟩:=h₂
 dsimp only at hns hsb ⊢
 generalize hH3:s₂.heap.push { cls:=.type "list",dict:=none,data:=.seq ([]:List Value).toArray }=h₃ at hns hsb ⊢
 have hL3:h₃.objs.size=s₂.heap.objs.size+1:=by (refine rwS hH3 ?_;refine rwI (Heap.size_push ..) ?_;rfl)
 have gD3:h₃.get? s₂.heap.objs.size=some { cls:=.type "list",dict:=none,data:=.seq ([]:List Value).toArray }:=by refine rwS hH3 ?_;exact Heap.get?_push_size _ rfl
 have k23:∀ b o,s₂.heap.get? b=some o→h₃.get? b=some o:=λb o g=>by refine rwS hH3 ?_;exact push_keeps _ _ b o g
 have k34:∀ b o,h₃.get? b=some o→h₄.get? b=some o:=λb o g=>(hsb.2 b λe=>by rw[e,get?_size] at g;exact none_some g).trans (push_keeps _ _ b o g)
 have k24:∀ b o,s₂.heap.get? b=some o→h₄.get? b=some o:=λb o g=>k34 b o (k23 b o g)
 clear hH3 hsb k23
 refine comp_start hel hts ck eo ao (fr.st iv eo st₁) rfl (W:=W) (D:=s₂.heap.objs.size) (H:=H) (s:=s) ⟨st₁,λb o g=>k24 b o (hk12 b o g),⟨hs12.1,hs12.2⟩,λb q=>?_,λb q=>?_,λe=>?_,λz=>?_,λz=>?_,?_⟩ hplen hP (k34 _ _ gD3) hns (λX' a b=>(hJ X' a b).imp id λj=>j h₄ k24) λH' s' x=>fin _ _ H' s' x
 ·rcases q with q|q|q
  ·exact hWf b q
  ·exact fresh_of hk12 (Nat.le_of_eq q.symm)
  ·exact fresh_of hk12 (Nat.le_trans (Nat.le_of_lt (Nat.lt_succ_self _)) (Nat.le_of_eq (hL3.symm.trans (q:b=h₃.objs.size).symm)))
 ·rcases q with q|q|q
  ·obtain⟨o,g⟩:=hWl b q;exact⟨o,k24 b o g⟩
  ·exact⟨_,q ▸ k34 _ _ gD3⟩
  ·obtain⟨o,_,_,g,_⟩:=hns;exact⟨o,(q:b=h₃.objs.size) ▸ g⟩
 ·exact absurd ((e:s₂.heap.objs.size=h₃.objs.size).trans hL3) (Nat.ne_of_lt (Nat.lt_succ_self _))
 ·obtain⟨o,g⟩:=hWl _ z
  rw[get?_size] at g;exact none_some g
 ·obtain⟨o,g⟩:=hWl _ z
  exact absurd (Nat.lt_of_lt_of_eq (Heap.lt_size g) rfl) (Nat.not_lt.mpr (Nat.le_trans (Nat.le_of_lt (Nat.lt_succ_self _)) (Nat.le_of_eq hL3.symm)))
 ·obtain⟨o,_,_,ho,_⟩:=gk.g
  exact Heap.lt_size (hk12 _ _ (st₁.inv.keeps0 _ _ ho))
end
section
variable {G:Glo}{C:Oracle}{n:Nat}
theorem clos_ok {sc:Nms}{vars:List Str}{elt:E}{t:Tg}{k:Sk}{es tests:List E}{caps:List Nat}{ex:Expr}{X:Nat→Prop}{env:Env}(eo:EnvOk G X env sc)(ck:CmpOk sc vars elt t k es tests caps ex) :
  closureFor (scp ex) env=pure (closL env.cells (scp ex).names []):=closureFor_eq λx hx e=>eo.hc _ (ck.fre x hx e)
theorem let_go {X:Nat→Prop}{H H':AHeap}{s s':Shared}{h':Heap}{L:Nat}(hf:∀ o,s.heap.get? L=some o→H L≠none)(hX:¬ X L)(st:St G (λb=>X b∨b=L) No H s H' s')(hs:Heap.SameBut L s'.heap h') :
  St G X No H s H' { s' with heap:=h' }∧∀ b o,Fz H' (λb=>X b∨b=L) b→s'.heap.get? b=some o→h'.get? b=some o∧Fz H' X b:=by
 have fi:Fin' (λb=>b=L) s' { s' with heap:=h' }:=⟨λb o q g=>(hs.2 b q).trans g,rfl,rfl⟩
 refine⟨⟨fi.inv st.inv (λb q=>.inr q) λb q=>⟨.inl q,λz=>hX ((z:b=L) ▸ q)⟩,λb o g q nO=>?_,st.same⟩,λb o f g=>⟨(hs.2 b λq=>f.2 (.inr q)).trans g,f.1,λq=>f.2 (.inl q)⟩⟩
 obtain⟨g',q'⟩:=st.steps b o g q id
 have:b≠L:=by rintro rfl;exact hf o g q
 exact⟨(hs.2 b this).trans g',q'⟩
theorem snd_comp (gk:GOk G){frz:Bool}{elt:E}{t:Tg}{k:Sk}{es tests:List E}{caps:List Nat}(hel:SndE G C n elt)(hts:∀ e∈tests,SndT G C n e)(hes:∀ e∈es,SndE G C n e):Snd G C n (.comp frz elt t k es tests caps):=by
 refine snd_of gk (λsc vars ex hm X A env s Er ρ H R eo ao iv fr hw=>?_) λvars ex=>rfl
 have ck:=comp_s hm
 refine (?_:wpAny _ _ (eval (.ListComp _ _ _ _) _) _ _ _)
 refine rwI (eval_ListComp ..) ?_
 refine wpAny_comprehension_free (use:=none) rfl (folded_of ck.nos env) (clos_ok eo ck) ck.kind ck.loc ?_
 refine comp_core (pos:=ex.pos) (Post:=λacc L=>compPost (model G.prog G.w) A Er none (PV G X H s R) acc L) gk hel hts hes ck eo ao iv fr hw λD L H' s' x hR hf hX st rx ⟨m,hm'⟩=>⟨m,hm',λh' hs=>?_⟩
 obtain⟨a,b⟩:=let_go hf hX st hs
 exact⟨x,H',hR,a,rx.mono b⟩
noncomputable def boolAt (vs:List Value) (i:Nat):Bool:=match vs[i]? with|some (.bool b)=>b|_=>false
theorem bools_rel {F:Nat→Prop}{h:Heap}:∀ {xs:List AV}{vs:List Value}{bs:List Bool},boolsOf xs=some bs→VRels G F h xs vs→vs=bs.map .bool:=@λy_1=>@λy_2=>@λy_3=>@λy_4=>@λy_5=>match @y_1,@y_2,@y_3,@y_4,@y_5 with
 |[],vs,bs,hb,rs=>by
  obtain rfl:=rs.nil_s
  refine rwS (Option.some.inj hb) ?_;rfl
 |x::xs,vs,bs,hb,rs=>by
  obtain⟨v,vs',rfl,r0,rs2⟩:=rs.cons_s
  cases x with
  |bool b=>
   obtain rfl:=r0.bool_s
   replace hb:(boolsOf xs).map (b :: ·)=some bs:=hb
   obtain⟨bs',h1,rfl⟩:=Option.map_eq_some_iff.mp hb
   (refine rwI List.map_cons ?_;refine rwS (bools_rel h1 rs2) ?_;rfl)
  |_=>exact none_some hb
theorem range_bools (bs:List Bool):(List.range (bs.map Value.bool).length).map (boolAt (bs.map .bool))=bs:=by
 apply List.ext_getElem
 ·simp
 ·intro i h1 h2
  (refine rwI (List.getElem_map ..) ?_;refine rwI (List.getElem_range ..) ?_)
  refine (?_:(match (bs.map Value.bool)[i]? with|some (.bool b)=>b|_=>false)=bs[i])
  (refine rwI (List.getElem?_map) ?_;refine rwI (List.getElem?_eq_getElem h2) ?_);rfl
theorem at_bool {bs:List Bool}{i:Nat}{v:Value}(hP:(bs.map Value.bool).toArray[i]? = some v):v=.bool (boolAt (bs.map .bool) i):=by
 have hP:(bs.map Value.bool)[i]? = some v:=by simpa using hP
 refine (?_:v=.bool (match (bs.map Value.bool)[i]? with|some (.bool b)=>b|_=>false))
 refine rwI hP ?_
 rw[List.getElem?_map] at hP
 obtain⟨b,h1,rfl⟩:=Option.map_eq_some_iff.mp hP
 rfl
theorem snd_aa (gk:GOk G){f:String}{e:E}{sc:Nms}{vars:List Str}{ex:Expr}{X:Nat→Prop}{A:Around}{env:Env}{s:Shared}{Er:Value→Shared→Prop}{ρ:AEnv}{H:AHeap}{g:List Bool→Bool}{R:AV→AHeap→Prop}{p q:Pos}(k:Nat)(hv:biTab[k]? = some (f,.builtin f))(he:SndE G C n e)
  (hm:(isG sc f&&(notStar (conc vars e ex)&&mE sc vars e ex))=true) (eo:EnvOk G X env sc) (ao:AOk n A) (iv:Inv G X H s.heap) (fr:Frm G X H s.heap env vars ρ) (hw:wE C e ρ H λx H=>ok (lstOf H x) λr=>ok (boolsOf r.1) λbs=>R (.bool (g bs)) H)
  (h:∀ (a:Addr) (bs:List Bool) (k:Nat) (s₁:Shared) (Q:Value→Shared→Prop),s₁.heap.get? a=some { cls:=.type "list",data:=.seq (bs.map Value.bool).toArray k } →
   (∀ h' tk,(∀ b o,s₁.heap.get? b=some o→h'.get? b=some o)→Q (.bool (g bs)) { s₁ with heap:=h',toks:=tk })→wpAny (model G.prog G.w) A (call (.builtin f) [.ref a]) Q Er s₁) :
  wpAny (model G.prog G.w) A (eval (.Call (.Name (S' f) p) [conc vars e ex] [] q) env) (PV G X H s R) Er s:=
 call1 gk k hv he hm eo ao iv fr hw λu s₁ x H₁ r hr q st ru iv₁=>by
  obtain⟨bs,hbs,q⟩:=ok_ex q
  obtain⟨a,vs,k,rfl,g,hl,rs,_⟩:=seq_of iv₁ ru hr
  obtain rfl:=bools_rel hbs rs
  exact h a bs k s₁ _ g λh' tk hk=>⟨_,H₁,q,St.toks (s:={ s₁ with heap:=h' }) (st.grow hk) tk,.bool _⟩
theorem snd_any (gk:GOk G){e:E}(he:SndE G C n e):Snd G C n (.any e):=by
 refine snd_of gk (λsc vars ex hm X A env s Er ρ H R eo ao iv fr hw=>snd_aa gk 7 rfl he hm eo ao iv fr hw λa bs k s₁ Q g hQ=>?_) λvars ex=>rfl
 have hne:a≠s₁.heap.objs.size:=by rintro rfl;rw[get?_size] at g;exact none_some g
 have hh:A.in1.handled=none:=by simp[ao.hd]
 refine call_any_walk (wpAny_pyIter_list (isList_of g) ⟨_,_,_,_,_,_,boolAt (bs.map .bool),rfl,Walks.list hh _ a hne (bs.map Value.bool).toArray,⟨⟨_,Heap.get?_push_size _ rfl,rfl,rfl⟩,(isList_of g).push _⟩,λi v s' Q E hP hQ=>by obtain rfl:=at_bool hP;exact wpAny_truthy_bool hQ,λh' tk hk=>?_⟩)
 have e1:(List.range (bs.map Value.bool).toArray.size).any (boolAt (bs.map .bool))=bs.any id:=by
  conv=>rhs;rw[← range_bools bs]
  refine rwI List.any_map ?_;rfl
 refine rwI e1 ?_
 exact hQ h' tk λb o e=>hk b o (by simp;rintro rfl;rw[get?_size] at e;exact none_some e) (push_keeps _ _ b o e)
theorem snd_all (gk:GOk G){e:E}(he:SndE G C n e):Snd G C n (.all e):=by
 refine snd_of gk (λsc vars ex hm X A env s Er ρ H R eo ao iv fr hw=>snd_aa gk 8 rfl he hm eo ao iv fr hw λa bs k s₁ Q g hQ=>?_) λvars ex=>rfl
 have hne:a≠s₁.heap.objs.size:=by rintro rfl;rw[get?_size] at g;exact none_some g
 have hh:A.in1.handled=none:=by simp[ao.hd]
 refine call_all_walk (wpAny_pyIter_list (isList_of g) ⟨_,_,_,_,_,_,boolAt (bs.map .bool),rfl,Walks.list hh _ a hne (bs.map Value.bool).toArray,⟨⟨_,Heap.get?_push_size _ rfl,rfl,rfl⟩,(isList_of g).push _⟩,λi v s' Q E hP hQ=>by obtain rfl:=at_bool hP;exact wpAny_truthy_bool hQ,λh' tk hk=>?_⟩)
 have e1:(List.range (bs.map Value.bool).toArray.size).all (boolAt (bs.map .bool))=bs.all id:=by
  conv=>rhs;rw[← range_bools bs]
  refine rwI List.all_map ?_;rfl
 refine rwI e1 ?_
 exact hQ h' tk λb o e=>hk b o (by simp;rintro rfl;rw[get?_size] at e;exact none_some e) (push_keeps _ _ b o e)
end
theorem insertI_perm (i:Int):∀ l,(insertI i l).Perm (i::l):=@λy_1=>match @y_1 with
 |[]=>.refl _
 |j::r=>by
  refine (?_:(if i≤j then i::j::r else j::insertI i r).Perm _)
  split
  ·exact .refl _
  ·exact ((insertI_perm i r).cons j).trans (.swap i j r)
theorem sortI_perm:∀ l,(sortI l).Perm l:=@λy_1=>match @y_1 with
 |[]=>.refl _
 |i::r=>(insertI_perm i _).trans ((sortI_perm r).cons i)
set_option tactic.hygienic true in
theorem insertI_asc (i:Int):∀ l:List Int,l.Pairwise (·≤·)→(insertI i l).Pairwise (·≤·):=@λy_1=>@λy_2=>match @y_1,@y_2 with
 |[],x_1=>.cons (by simp) .nil
 |j::r,h=>by
  refine (?_:(if i≤j then i::j::r else j::insertI i r).Pairwise _)
  have h':=List.pairwise_cons.mp h
  split
  ·rename_i hij
   refine .cons (λx hx=>?_) h
   rcases List.mem_cons.mp hx with rfl|hx
   ·exact hij
   ·exact Int.le_trans hij (h'.1 x hx)
  ·rename_i hij
   refine .cons (λx hx=>?_) (insertI_asc i r h'.2)
   rcases List.mem_cons.mp ((insertI_perm i r).mem_iff.mp hx) with rfl|hx
   ·lia
   ·exact h'.1 x hx
theorem sortI_asc:∀ l,(sortI l).Pairwise (·≤·):=@λy_1=>match @y_1 with
 |[]=>.nil
 |i::r=>insertI_asc i _ (sortI_asc r)
theorem sortI_eq {l r:List Int}(p:r.Perm l)(o:r.Pairwise (·≤·)):r=sortI l:=lks_uniq (p.trans (sortI_perm l).symm) o (sortI_asc l)
section
variable {prog:Program}{w:World}{A:Around}{E:Value→Shared→Prop}{s:Shared}
theorem proto_dict {K:Type} [DecidableEq K]{knd:KeyKind prog w K}{d:Addr}{kvs:List (K×Value)}{ep:Nat}{R:Result→Shared→Prop}(hh:A.handled=none)(lo:(d==sysModules)=false)(hm:s.heap.DictAt knd d kvs ep)(hn:kvs.length≤sizeLine)
  (hR:∀ h' tk D acc c,(∀ b o,s.heap.get? b=some o→h'.get? b=some o)→h'.get? D=some { cls:=.type "list",data:=.seq acc c }→ItemsOf (λi v=>∃ k x,kvs[i]? = some (k,x)∧knd.is k v=true) acc kvs.length→R (.ok (.ret (.ref D))) { s with heap:=h',toks:=tk }) :
  codeAny (model prog w) A (.builtin "proto.collect" ⟨[.ref d],[]⟩) R s:=by
 refine codeAny_builtin F.entry_proto_collect ?_
 refine rwI (Around.under_plainId F.plain_proto_collect _) ?_
 refine (?_:wpAny _ A.in1 (newList [] >>= λl=>again (.builtin "list.__iadd__" ⟨[l,.ref d],[]⟩)) _ _ s)
 refine wpAny_bind (wpAny_newObj_type ?_)
 refine wpAny_pure ⟨plainId_quiet F.plain_list_iadd _,codeAny_builtin F.entry_list_iadd ?_⟩
 refine rwI (Around.under_plainId F.plain_list_iadd _) ?_
 have hS₁:(s.heap.push { cls:=.type "list",data:=.seq ([]:List Value).toArray }).get? s.heap.objs.size=some { cls:=.type "list",data:=.seq ([]:List Value).toArray }:=Heap.get?_push_size _ rfl
 have hne:s.heap.objs.size≠d:=Nat.ne_of_gt hm.lt_size
 refine (?_:wpAny _ A.in1 (Builtin.List.listExtendWith (.ref s.heap.objs.size) (.ref d) (.ref s.heap.objs.size)) _ _ _)
 exact kdl_extend (s:={ s with heap:=s.heap.push { cls:=.type "list",data:=.seq ([]:List Value).toArray } }) (kdl_dict lo) hh (hm.push _) _ hne hne (.ref s.heap.objs.size) 0 hS₁ (λh' tk acc' c' hk hS' hacc=>
  hR h' tk _ acc' c' (λb o e=>hk b o (Nat.ne_of_lt (Heap.lt_size e)) (Heap.get?_push_of_some _ e)) hS' hacc) hn
theorem collect_dict {K:Type} [DecidableEq K]{knd:KeyKind prog w K}{d:Addr}{kvs:List (K×Value)}{ep:Nat}{Q:List Value→Shared→Prop}(hh:A.handled=none)(lo:(d==sysModules)=false)(hm:s.heap.DictAt knd d kvs ep)(hn:kvs.length≤sizeLine)
  (hQ:∀ h' tk acc,(∀ b o,s.heap.get? b=some o→h'.get? b=some o)→ItemsOf (λi v=>∃ k x,kvs[i]? = some (k,x)∧knd.is k v=true) acc kvs.length→Q acc.toList { s with heap:=h',toks:=tk }) :
  wpAny (model prog w) A (collect (.ref d)) Q E s:=by
 unfold collect
 refine wpAny_bind (wpAny_runValue (proto_dict hh lo hm hn λh' tk D acc c hk hS' hacc=>?_))
 refine (?_:wpAny _ A (load D >>= _) _ _ _)
 refine wpAny_bind (wpAny_load hS' ?_)
 exact wpAny_pure (hQ h' tk acc hk hacc)
theorem sorted_dict {d:Addr}{kvs:List (Int×Value)}{ep:Nat}{Q:Value→Shared→Prop}(hh:A.handled=none)(lo:(d==sysModules)=false)(hm:s.heap.DictAt (intKind prog w) d kvs ep)(hn:kvs.length < 64)
  (hQ:∀ h' tk D vs k,(∀ b o,s.heap.get? b=some o→h'.get? b=some o)→s.heap.get? D=none→h'.get? D=some { cls:=.type "list",data:=.seq vs.toArray k }→IntsAre vs (sortI (kvs.map (·.1)))→Q (.ref D) { s with heap:=h',toks:=tk }) :
  wpAny (model prog w) A (call (.builtin "sorted") [.ref d]) Q E s:=by
 refine Calls.call_function_entry kind_sorted plain_sorted entry_sorted (args_sorted1 _) ?_
 unfold Builtin.«sorted»
 refine wpAny_bind (m:=checkCount "sorted" 1 1 _) (wpAny_pure ?_)
 refine wpAny_bind (collect_dict (by exact hh) lo hm (by refine rwI sizeLine_eq ?_;exact Nat.le_trans (Nat.le_of_lt hn) (by decide)) λh' tk acc hk hacc=>?_)
 have hints:IntsAre acc.toList (kvs.map (·.1)):=by
  have hl:acc.toList.length=kvs.length:=by refine rwI Array.length_toList ?_;exact hacc.1
  have hi:∀ i v,acc.toList[i]? = some v→∃ k x,kvs[i]? = some (k,x)∧(intKind prog w).is k v=true:=λi v e=>hacc.2 i v (by refine rwS (Array.getElem?_toList) ?_;exact e)
  clear hacc hQ hm
  generalize acc.toList=vs at *
  clear hk
  induction kvs generalizing vs with
  |nil=>cases vs with
   |nil=>exact .nil
   |cons=>simp at hl
  |cons p r ih=>cases vs with
   |nil=>simp at hl
   |cons v vs=>
    obtain⟨k,x,e,h1⟩:=hi 0 v rfl
    obtain⟨t,rfl⟩:=Value.isInt_shape h1
    cases (Option.some.inj e:p=(k,x))
    exact .cons k t (ih (Nat.lt_of_succ_lt hn) vs (by simpa using hl) λi v e=>hi (i+1) v e)
 refine wpAny_bind (wpAny_newList ?_)
 have hoL:(h'.push (seqObj "list" acc.toList.toArray 0)).get? h'.objs.size=some (seqObj "list" acc.toList.toArray 0):=Heap.get?_push_size _ rfl
 refine wpAny_bind (wpAny_holding (wpAny_call_entry slot_list_sort ⟨_,hoL,rfl⟩ entry_list_sort (list_sort_tree hoL hints (by have h9:=hints.length;rw[List.length_map] at h9;lia) λout ns' a1 a2 a3=>⟨_,rfl,?_⟩) (args_list_sort _)))
 obtain⟨e,he⟩:=sortedHeap_at (out:=out) hoL
 have hD:s.heap.get? h'.objs.size=none:=by
  cases hq:s.heap.get? h'.objs.size with
  |none=>rfl
  |some o=>exact absurd (Heap.lt_size (hk _ _ hq)) (Nat.lt_irrefl _)
 refine wpAny_pure ⟨_,rfl,hQ _ tk _ out.toList e (λb o g=>?_) hD (by refine rwI Array.toArray_toList ?_;exact he) (by refine rwS (sortI_eq a2 a3) ?_;exact a1)⟩
 have hb:=Heap.lt_size (hk b o g)
 rw[sortedHeap_old (Nat.ne_of_lt hb) (by refine rwI (size_push' ..) ?_;exact Nat.lt_succ_of_lt hb),Heap.get?_push_ne _ _ _ (Nat.ne_of_lt hb)]
 exact hk b o g
end
section
variable {G:Glo}{C:Oracle}{n:Nat}
theorem ints_rels {F:Nat→Prop}{h:Heap}{is:List Int}{vs:List Value}(r:IntsAre vs is):VRels G F h (is.map .int) vs:=by
 induction r with
 |nil=>exact .nil
 |cons a t _ ih=>exact .cons (.int a t) ih
theorem snd_sorted (gk:GOk G){e:E}(he:SndE G C n e):Snd G C n (.sorted e):=by
 refine snd_of gk (λsc vars ex hm X A env s Er ρ H R eo ao iv fr hw=>call1 gk 3 rfl he hm eo ao iv fr hw λu s₁ x H₁ r hr q st ru iv₁=>?_) λvars ex=>rfl
 cases x with
 |ref a=>
  obtain rfl:=ru.ref_s
  obtain⟨es,hH,hl,rfl⟩:=sortedO_s hr
  obtain⟨kvs,hd,_,hk,_⟩:=iv₁.objs _ _ hH
  obtain⟨ep,ha⟩:∃ ep,s₁.heap.DictAt (intKind G.prog G.w) a kvs ep:=by
   obtain⟨o,es',ep,x⟩:=hd;exact⟨ep,o,es',x⟩
  have hkl:kvs.length=es.length:=by (refine rwS (List.length_map (f:=λx:Int×Value=>x.1)) ?_;refine rwI hk ?_;refine rwI (List.length_map ..) ?_;rfl)
  refine sorted_dict (by simp[ao.hd]) (iv₁.notMods hH) ha (by lia) λh' tk D vs k hke hD gD hi=>?_
  rw[hk] at hi
  exact⟨_,H₁,q,St.toks (s:={ s₁ with heap:=h' }) (st.grow hke) tk,.lst (iv₁.free hD) gD (by have:=hi.length;rw[(sortI_perm _).length_eq,List.length_map] at this;lia) (ints_rels hi)⟩
 |_=>exact none_some hr
end
section
variable {G:Glo}{C:Oracle}{n:Nat}
noncomputable def Snd3 (G:Glo) (C:Oracle) (n:Nat) (e:E):Prop:=Snd G C n e∧SndAnd G C n e∧SndOr G C n e
variable (gk:GOk G)
include gk
theorem snd_3 (os:OrS G n C)(e:E):Snd3 G C n e:=
 have s {e:E} (k:Snd G C n e) (h:isAndE e=false) (h':isOrE e=false):Snd3 G C n e:=⟨k,sndAnd_no k h,sndOr_no k h'⟩
 have l {es:List E} (h:∀ a∈es,Snd3 G C n a):SndEs G C n es:=sndEs λa ha=>(h a ha).1.1
 E.rec (motive_1:=Snd3 G C n) (motive_2:=λes=>∀ a∈es,Snd3 G C n a)
  (s snd_dead rfl rfl) (λk=>s (snd_v gk k) rfl rfl) (s (snd_none gk) rfl rfl) (λb=>s (snd_bool gk b) rfl rfl) (λi=>s (snd_int gk i) rfl rfl) (λx=>s (snd_str gk x) rfl rfl) (λk=>s (snd_glob gk k) rfl rfl)
  (λe c k h=>s (snd_attr gk c k h.1.1) rfl rfl) (λe i h h'=>s (snd_idx gk h.1.1 h'.1.1) rfl rfl) (λe h=>s (snd_revs gk h.1.1) rfl rfl) (λe k h=>s (snd_upto gk k h.1.1) rfl rfl)
  (λop a b h h'=>s (snd_bin gk op h.1.1 h'.1.1) rfl rfl) (λop a b h h'=>s (snd_cmp gk op h.1.1 h'.1.1) rfl rfl) (λo1 o2 a b c h h' h2=>s (snd_cmp2 gk o1 o2 h.1.1 h'.1.1 h2.1.1) rfl rfl) (λe h=>s (snd_eqNil gk h.1.1) rfl rfl)
  (λa b h h'=>s (snd_setNe gk h.1.1 h'.1.1) rfl rfl) (λa b h h'=>s (snd_setLe gk h.1.1 h'.1.1) rfl rfl) (λneg e k h=>s (snd_inG gk neg k h.1.1) rfl rfl) (λe h=>s (snd_not gk h.1) rfl rfl)
  (λa b h h'=>have k:=snd_and gk h.1 h'.2.1;⟨k,sndAnd_of gk k h.1 h'.2.1,sndOr_no k rfl⟩)
  (λa b h h'=>have k:=snd_or gk h.1 h'.2.2;⟨k,sndAnd_no k rfl,sndOr_of gk k h.1 h'.2.2⟩)
  (λt a b h h' h2=>s (snd_ife gk h.1.2 h'.1 h2.1) rfl rfl) (λes h=>s (snd_tup gk (l h)) rfl rfl) (λfrz es h=>s (snd_lst gk (l h)) rfl rfl) (s (snd_dict0 gk) rfl rfl) (s (snd_set0 gk) rfl rfl) (λi=>s (snd_set1 gk i) rfl rfl)
  (λe h=>s (snd_setOf gk h.1.1) rfl rfl) (λf es h=>s (snd_call gk os f (l h)) rfl rfl) (λc es h=>s (snd_mk gk os c (l h)) rfl rfl) (λe h=>s (snd_len gk h.1.1) rfl rfl) (λe h=>s (snd_listOf gk h.1.1) rfl rfl)
  (λe h=>s (snd_sorted gk h.1.1) rfl rfl) (λe h=>s (snd_any gk h.1.1) rfl rfl) (λe h=>s (snd_all gk h.1.1) rfl rfl) (λe h=>s (snd_isBool gk h.1.1) rfl rfl) (λe h=>s (snd_strOf gk h.1.1) rfl rfl)
  (λo e h h'=>s (snd_append gk h.1.1 h'.1.1) rfl rfl) (λo h=>s (snd_pop gk h.1.1) rfl rfl) (λo k d h h' h2=>s (snd_get gk h.1.1 h'.1.1 h2.1.1) rfl rfl) (λo k h h'=>s (snd_dpop gk h.1.1 h'.1.1) rfl rfl)
  (λo e h h'=>s (snd_add gk h.1.1 h'.1.1) rfl rfl) (λo e h h'=>s (snd_discard gk h.1.1 h'.1.1) rfl rfl) (λo e h h'=>s (snd_count gk h.1.1 h'.1.1) rfl rfl)
  (λfrz elt t k es tests caps h h' h2=>s (snd_comp gk h.1.1 (λa ha=>(h2 a ha).1.2) λa ha=>(h' a ha).1.1) rfl rfl)
  (λa h=>nomatch h) (λe es h h' a ha=>(List.mem_cons.mp ha).elim (λq=>q ▸ h) (h' a)) e
theorem snd (os:OrS G n C)(e:E):Snd G C n e:=(snd_3 gk os e).1
end
inductive FlR (G:Glo)(F:Nat→Prop)(h:Heap):Fl→Flow→Prop
 |nx:FlR G F h .nx .next
 |ct:FlR G F h .ct .cont
 |rt {x v}:VRel G F h x v→FlR G F h (.rt x) (.ret v)
inductive PF (G:Glo)(X:Nat→Prop)(H₀:AHeap)(s₀:Shared)(env:Env)(vars:List Str)(Q:Fl→AEnv→AHeap→Prop)(f:Flow)(s':Shared):Prop
 |mk (fl:Fl) (ρ':AEnv) (H':AHeap):Q fl ρ' H'→St G X (Own env) H₀ s₀ H' s'→Frm G X H' s'.heap env vars ρ'→FlR G (Fz H' X) s'.heap fl f→PF G X H₀ s₀ env vars Q f s'
noncomputable def SndS (G:Glo) (C:Oracle) (n:Nat) (st:S):Prop:=∀ sc vars x,mS sc vars st x=true→∀ X A env s Er ρ H Q,vars.Nodup→EnvOk G X env sc→AOk n A→Inv G X H s.heap→Frm G X H s.heap env vars ρ →
 wS C st ρ H Q→wpAny (model G.prog G.w) A (exec (concS vars st x) env) (PF G X H s env vars Q) Er s
noncomputable def SndB (G:Glo) (C:Oracle) (n:Nat) (b:List S):Prop:=∀ sc vars xs,mB sc vars b xs=true→∀ X A env s Er ρ H Q,vars.Nodup→EnvOk G X env sc→AOk n A→Inv G X H s.heap→Frm G X H s.heap env vars ρ →
 wB C b ρ H Q→wpAny (model G.prog G.w) A (execs (concB vars b xs) env) (PF G X H s env vars Q) Er s
section
variable {G:Glo}{C:Oracle}{n:Nat}
theorem toOwn {X:Nat→Prop}{H₀ H:AHeap}{s₀ s:Shared}{env:Env}(st:St G X No H₀ s₀ H s):St G X (Own env) H₀ s₀ H s:=st.weak λx_ e=>e.elim
theorem PF.start {X:Nat→Prop}{H₀ H:AHeap}{s₀ s:Shared}{env:Env}{vars:List Str}{Q:Fl→AEnv→AHeap→Prop}{f:Flow}{s':Shared}(st:St G X (Own env) H₀ s₀ H s)(p:PF G X H s env vars Q f s'):PF G X H₀ s₀ env vars Q f s':=by
 obtain⟨fl,ρ',H',q,st',fr',r⟩:=p
 exact⟨fl,ρ',H',q,st.trans st',fr',r⟩
theorem swaps_no {v:Expr}{t:Option Expr}{l:Nat}{env:Env}(h:notComp v=true):swapsWith v t l env=pure false:=by
 cases v<;>first|rfl|exact (Bool.false_ne_true h).elim
theorem inter_no {X:Nat→Prop}{env:Env}{sc:Nms}(eo:EnvOk G X env sc):interactive env=false:=by
 unfold interactive;refine rwI eo.kind ?_;rfl
theorem ownO {env:Env}{sc:Nms}{x:Str}:StO (Own env) env sc x:=⟨λx_=>.inl rfl,λc x_ h=>.inr ⟨x,h⟩⟩
theorem sndS_dead:SndS G C n .dead:=λsc vars x hm X A env s Er ρ H Q nd eo ao iv fr hw=>False.elim hw
theorem sndS_cont:SndS G C n .cont:=λsc vars x hm X A env s Er ρ H Q nd eo ao iv fr hw=>wpAny_Continue ⟨_,_,_,hw,St.start iv,fr,.ct⟩
theorem sndS_ret (gk:GOk G){e:E}(he:SndE G C n e):SndS G C n (.ret e):=λsc vars x hm X A env s Er ρ H Q nd eo ao iv fr hw=>
 wpAny_Return_some (he.use hm eo ao iv fr hw λu s₁ y H₁ q st ru iv₁ fr₁=>⟨_,_,_,q,toOwn st,fr₁,.rt ru⟩)
theorem sndS_ex (gk:GOk G){e:E}(he:SndE G C n e):SndS G C n (.ex e):=λsc vars x hm X A env s Er ρ H Q nd eo ao iv fr hw=>
 wpAny_Expr_any (he.use (and2 hm).1 eo ao iv fr hw λu s₁ y H₁ q st ru iv₁ fr₁=>⟨_,_,_,q,toOwn st,fr₁,.nx⟩) (inter_no eo) (swaps_no (and2 (and2 hm).2).1)
theorem SndB.use {b:List S}{sc:Nms}{vars:List Str}{xs:List Stmt}{X:Nat→Prop}{A:Around}{env:Env}{s₀ s:Shared}{Er:Value→Shared→Prop}{ρ:AEnv}{H₀ H:AHeap}{Q:Fl→AEnv→AHeap→Prop}(hb:SndB G C n b)(hm:mB sc vars b xs=true)(nd:vars.Nodup)(eo:EnvOk G X env sc)(ao:AOk n A)
  (st:St G X (Own env) H₀ s₀ H s) (fr:Frm G X H s.heap env vars ρ) (hw:wB C b ρ H Q):wpAny (model G.prog G.w) A (execs (concB vars b xs) env) (PF G X H₀ s₀ env vars Q) Er s:=
 wpAny_mono (hb sc vars xs hm X A env s Er ρ H Q nd eo ao st.inv fr hw) (λf s₂ p=>p.start st) λx_ x_ e=>e
theorem sndS_iff (gk:GOk G){t:E}{a b:List S}(ht:SndT G C n t)(ha:SndB G C n a)(hb:SndB G C n b):SndS G C n (.iff t a b):=λsc vars x hm X A env s Er ρ H Q nd eo ao iv fr hw=>by
 obtain⟨h1,h2⟩:=and2 hm
 obtain⟨h2,h3⟩:=and2 h2
 refine wpAny_If (ht.use (K:=λx_ t H=>match t with|true=>wB C a ρ H Q|false=>wB C b ρ H Q) h1 eo ao iv fr hw λt s₁ z H₁ x_ q st iv₁ fr₁=>?_)
 cases t with
 |true=>exact ha.use h2 nd eo ao (toOwn st) fr₁ q
 |false=>exact hb.use h3 nd eo ao (toOwn st) fr₁ q
theorem sndB_nil:SndB G C n []:=λsc vars xs hm X A env s Er ρ H Q nd eo ao iv fr hw=>wpAny_execs_nil ⟨_,_,_,hw,St.start iv,fr,.nx⟩
theorem sndB_cons {st:S}{b:List S}(hg:isGho st=false)(hs:SndS G C n st)(hb:SndB G C n b):SndB G C n (st::b):=λsc vars xs hm X A env s Er ρ H Q nd eo ao iv fr hw=>by
 obtain⟨h1,h2⟩:=and2 hm
 refine (?_:wpAny _ _ (execs (consB (isGho st) _ _) _) _ _ _)
 rw[hg] at h2 ⊢
 refine wpAny_execs_cons (wpAny_mono (hs sc vars _ h1 X A env s Er ρ H _ nd eo ao iv fr hw) (λf s₁ pv3=>?_) λx_ x_ e=>e)
 obtain⟨fl,ρ₁,H₁,q,st₁,fr₁,r₁⟩:=pv3
 cases r₁ with
 |nx=>exact hb.use h2 nd eo ao st₁ fr₁ q
 |ct=>exact⟨_,_,_,q,st₁,fr₁,.ct⟩
 |rt rv=>exact⟨_,_,_,q,st₁,fr₁,.rt rv⟩
end
section
variable {G:Glo}{C:Oracle}{n:Nat}
theorem swapped_no {ts:List Expr}{k:Nat}{p:Pos}{v:Expr}{env:Env}(h:(!isTupleDisplay v||decide (3 < ts.length))=true):swappedStores [.Tuple ts k p] v env=pure none:=by
 cases v with
 |Tuple vs k' p'=>
  have h:3 < ts.length:=of_decide_eq_true h
  have e:(!(ts.length==2||ts.length==3)||vs.length != ts.length||env.blockKind != .function)=true:=by
   have:(ts.length==2||ts.length==3)=false:=by simp;lia
   refine rwI this ?_;rfl
  unfold swappedStores
  dsimp only
  (refine rwI (if_pos e) ?_;rfl)
 |_=>rfl
theorem eNames_len {vars:List Str}:∀ {ns:List Nat}{es:List Expr},(eNames vars ns es).length=ns.length:=@λy_1=>@λy_2=>match @y_1,@y_2 with
 |[],x_1=>rfl
 |x_1::x_2,x_3=>congrArg Nat.succ eNames_len
theorem sndS_asgA (gk:GOk G){o e:E}(c k:Nat)(ho:SndE G C n o)(he:SndE G C n e):SndS G C n (.asgA o c k e):=λsc vars x hm X A env s Er ρ H Q nd eo ao iv fr hw=>by
 obtain⟨h1,hm⟩:=and2 hm
 obtain⟨h2,hm⟩:=and2 hm
 obtain⟨h3,hm⟩:=and2 hm
 have hn:=fld_s (and2 hm).2
 refine plainObj_wpAny_Assign_Attribute (he.use h2 eo ao iv fr hw λu s₁ x1 H₁ q st ru iv₁ fr₁=>ho.use h1 eo ao iv₁ fr₁ q λw s₂ x2 H₂ q st₂ rw iv₂ fr₂=>?_) (swaps_no h3)
 refine wpAny_mono (setAttr_ok gk hn (St.start iv₂) rw (ru.st st₂) q) (λx_ s₃ pv3=>?_) λx_ x_ e=>e
 obtain⟨H₃,q,st₃⟩:=pv3
 exact⟨_,_,_,q,toOwn (st.trans (st₂.trans st₃)),fr₂.st iv₂ eo st₃,.nx⟩
theorem sndS_asgI (gk:GOk G){o i e:E}(ho:SndE G C n o)(hi:SndE G C n i)(he:SndE G C n e):SndS G C n (.asgI o i e):=λsc vars x hm X A env s Er ρ H Q nd eo ao iv fr hw=>by
 obtain⟨h1,hm⟩:=and2 hm
 obtain⟨h2,hm⟩:=and2 hm
 obtain⟨h3,hm⟩:=and2 hm
 refine wpAny_Assign_Subscript (he.use h3 eo ao iv fr hw λu s₁ x1 H₁ q st ru iv₁ fr₁=>ho.use h1 eo ao iv₁ fr₁ q λw s₂ x2 H₂ q st₂ rw iv₂ fr₂=>hi.use h2 eo ao iv₂ fr₂ q λz s₃ x3 H₃ q st₃ rz iv₃ fr₃=>?_) (swaps_no (and2 hm).1)
 refine wpAny_mono (setItem_ok (St.start iv₃) (rw.st st₃) rz ((ru.st st₂).st st₃) q) (λx_ s₄ pv7=>?_) λx_ x_ e=>e
 obtain⟨H₄,q,st₄⟩:=pv7
 exact⟨_,_,_,q,toOwn (st.trans (st₂.trans (st₃.trans st₄))),fr₃.st iv₃ eo st₄,.nx⟩
theorem sndS_asgT (gk:GOk G){ns:List Nat}{e:E}(he:SndE G C n e):SndS G C n (.asgT ns e):=λsc vars x hm X A env s Er ρ H Q nd eo ao iv fr hw=>by
 obtain⟨h1,hm⟩:=and2 hm
 obtain⟨h2,hm⟩:=and2 hm
 obtain⟨h3,h4⟩:=and2 hm
 have h1:=List.all_eq_true.mp h1
 refine wpAny_Assign_stores (he.got h2 eo ao iv fr hw λu s₁ x1 H₁ xs hx q st ru iv₁ fr₁=>?_) (by unfold swapsWithSole;exact swaps_no h3) (swapped_no (by refine rwI eNames_len ?_;exact h4))
 exact assign_tuple (k:=kN (sTgt x)) (p:=(sTgt x).pos) (ts:=kids (sTgt x)) ao.hd eo nd eo.own (λk hk=>⟨h1 k hk,ownO⟩) iv₁ fr₁ ru hx λs₂ st₂ fr₂=>⟨_,_,_,q,(toOwn st).trans st₂,fr₂,.nx⟩
theorem sndS_asg0 (gk:GOk G){k:Nat}{e:E}(he:SndE G C n e){sc:Nms}{vars:List Str}{p:Pos}{ex tg:Expr}(h1:varOk sc vars k=true)(hnc:notComp (conc vars e ex)=true)(h3:mE sc vars e ex=true)
  {X:Nat→Prop} {A:Around} {env:Env} {s:Shared} {Er:Value→Shared→Prop} {ρ:AEnv} {H:AHeap} {Q:Fl→AEnv→AHeap→Prop} (nd:vars.Nodup) (eo:EnvOk G X env sc) (ao:AOk n A) (iv:Inv G X H s.heap) (fr:Frm G X H s.heap env vars ρ)
  (hw:wS C (.asg k e) ρ H Q):wpAny (model G.prog G.w) A (exec (.Assign [eName (nmOf vars k) tg] (conc vars e ex) p) env) (PF G X H s env vars Q) Er s:=
 wpAny_Assign_stores (he.use h3 eo ao iv fr hw λu s₁ x1 H₁ q st ru iv₁ fr₁=>assign_name (O:=Own env) eo iv₁ fr₁ nd eo.own h1 ownO ru λs₂ st₂ fr₂=>⟨_,_,_,q,(toOwn st).trans st₂,fr₂,.nx⟩) (by unfold swapsWithSole;exact swaps_no hnc) rfl
end
section
variable {G:Glo}{C:Oracle}{n:Nat}
theorem Frm.map {X X':Nat→Prop}{H H':AHeap}{h h':Heap}{env:Env}{vars:List Str}{ρ:AEnv}(f:Frm G X H h env vars ρ)(hv:∀ b o,Fz H X b→h.get? b=some o→h'.get? b=some o∧Fz H' X' b)
  (ho:∀ b o,Own env b→h.get? b=some o→h'.get? b=some o):Frm G X' H' h' env vars ρ:=by
 obtain⟨⟨m,hn,hvs⟩,hcs⟩:=f
 have kc:∀ {n c v},env.cells.lookup n=some c→h.IsCell c v→h'.IsCell c v:=λl ⟨o,e,d⟩=>⟨o,ho _ o (.inr ⟨_,l⟩) e,d⟩
 refine⟨⟨m,?_,λj y e=>?_⟩,λn c l=>let ⟨v,q⟩:=hcs n c l;⟨v,kc l q⟩⟩
 ·obtain⟨o,es,ep,g,r⟩:=hn
  exact⟨o,es,ep,ho _ o (.inl rfl) g,r⟩
 ·obtain⟨nm,v,e1,e2,e3⟩:=hvs j y e
  refine⟨nm,v,e1,?_,e3.mono hv⟩
  cases e2 with
  |loc k q=>exact .loc k q
  |cell k l q=>exact .cell k l (kc l q)
theorem EnvOk.wide {X X':Nat→Prop}{env:Env}{sc:Nms}(eo:EnvOk G X env sc)(s:∀ b,X b→X' b):EnvOk G X' env sc:=
 ⟨eo.kind,eo.nm,eo.gl,eo.bi,s _ eo.xl,λn c h=>⟨s _ (eo.xc n c h).1,(eo.xc n c h).2⟩,eo.ap,eo.hc,eo.cr⟩
theorem let_goO {X O:Nat→Prop}{H H':AHeap}{s s':Shared}{h':Heap}{L:Nat}(hf:∀ o,s.heap.get? L=some o→H L≠none)(hX:¬ X L)(st:St G (λb=>X b∨b=L) O H s H' s')(hs:Heap.SameBut L s'.heap h') :
  St G X O H s H' { s' with heap:=h' }∧∀ b o,Fz H' (λb=>X b∨b=L) b→s'.heap.get? b=some o→h'.get? b=some o∧Fz H' X b:=by
 have fi:Fin' (λb=>b=L) s' { s' with heap:=h' }:=⟨λb o q g=>(hs.2 b q).trans g,rfl,rfl⟩
 refine⟨⟨fi.inv st.inv (λb q=>.inr q) λb q=>⟨.inl q,λz=>hX ((z:b=L) ▸ q)⟩,λb o g q nO=>?_,st.same⟩,λb o f g=>⟨(hs.2 b λq=>f.2 (.inr q)).trans g,f.1,λq=>f.2 (.inl q)⟩⟩
 obtain⟨g',q'⟩:=st.steps b o g q nO
 have:b≠L:=by rintro rfl;exact hf o g q
 exact⟨(hs.2 b this).trans g',q'⟩
theorem swaps_yes {X:Nat→Prop}{env:Env}{sc:Nms}{x:Str}{e:Expr}{gs:List Comprehension}{inner:Scope}{p p':Pos}{l:Nat}(eo:EnvOk G X env sc)(h1:isL sc x=true)(h2:compApart x (.ListComp e gs inner p)=true)(h3:(p'.line==p.line)=true) :
  swapsWith (.ListComp e gs inner p) (some (.Name x p')) l env=pure true:=by
 have b1:(env.blockKind==.function)=true:=by unfold Env.blockKind;refine rwI eo.kind ?_;rfl
 have b2:(env.kindOf x==some NameKind.local)=true:=by
  have:env.kindOf x=sc.lookup x:=by refine rwS eo.nm ?_;rfl
  refine rwI this ?_;exact h1
 have b3:(!(inner.names.any λ(n,k)=>n==x&&(k==.local||k==.cell)))=true:=h2
 refine (?_:(pure (env.blockKind==.function&&env.kindOf x==some .local&&p'.line==p.line && !(inner.names.any λ(n,k)=>n==x&&(k==.local||k==.cell))):Sem Bool)=pure true)
 (refine rwI b1 ?_;refine rwI b2 ?_;refine rwI h3 ?_;refine rwI b3 ?_);rfl
set_option tactic.hygienic true in
theorem sndS_asgC (gk:GOk G){kk:Nat}{frz:Bool}{elt:E}{t:Tg}{k:Sk}{es tests:List E}{caps:List Nat}(hel:SndE G C n elt)(hts:∀ e∈tests,SndT G C n e)(hes:∀ e∈es,SndE G C n e){sc:Nms}{vars:List Str}{p:Pos}{ex tg:Expr}
  (ck:CmpOk sc vars elt t k es tests caps ex) (h1:varOk sc vars kk=true) (h2:isL sc (nmOf vars kk)=true) (h3:compApart (nmOf vars kk) (conc vars (.comp frz elt t k es tests caps) ex)=true) (h4:(tg.pos.line==ex.pos.line)=true)
  {X:Nat→Prop} {A:Around} {env:Env} {s:Shared} {Er:Value→Shared→Prop} {ρ:AEnv} {H:AHeap} {Q:Fl→AEnv→AHeap→Prop} (nd:vars.Nodup) (eo:EnvOk G X env sc) (ao:AOk n A) (iv:Inv G X H s.heap) (fr:Frm G X H s.heap env vars ρ)
  (hw:wS C (.asg kk (.comp frz elt t k es tests caps)) ρ H Q):wpAny (model G.prog G.w) A (exec (.Assign [eName (nmOf vars kk) tg] (conc vars (.comp frz elt t k es tests caps) ex) p) env) (PF G X H s env vars Q) Er s:=by
 refine rwI (show exec (.Assign [eName (nmOf vars kk) tg] (conc vars (.comp frz elt t k es tests caps) ex) p) env=_ from exec_Assign_Name_used _ _ _ _ (swaps_yes eo h2 h3 h4)) ?_
 refine wpAny_bind (wpAny_standAt (wpAny_bind ?_))
 refine (?_:wpAny _ A (do let _ ← comprehension (conc vars (.comp frz elt t k es tests caps) ex) (scp ex) env _ (newList []) false (eval (eSrc k (concs vars es (srcs k (kid ex 2))) (kid ex 2)) env) (some (assign (eName (nmOf vars kk) tg) env))) _ _ s)
 refine wpAny_bind (wpAny_mono (wpAny_comprehension_free (use:=some (assign (eName (nmOf vars kk) tg) env)) (Q:=λx_ s'=>PF G X H s env vars Q .next s') rfl (folded_of ck.nos env) (clos_ok eo ck) ck.kind ck.loc ?_) (λx_ s' hq=>wpAny_pure (wpAny_pure hq)) λx_ x_ e=>e)
 refine comp_core (pos:=ex.pos) (Post:=λacc L=>compPost (model G.prog G.w) A Er (some (assign (eName (nmOf vars kk) tg) env)) (λx_ s'=>PF G X H s env vars Q .next s') acc L) gk hel hts hes ck eo ao iv fr hw λD L H' s' y hR hf hX st rx pv1=>?_
 obtain⟨m,hm'⟩:=pv1
 refine (?_:wpAny _ A (assign (eName (nmOf vars kk) tg) env (.ref D)) _ _ _)
 have eo':EnvOk G (λb=>X b∨b=L) env sc:=eo.wide λb=>.inl
 have keep0:∀ b o,Own env b→s.heap.get? b=some o→s'.heap.get? b=some o:=λb o hb g=>(st.steps b o g (iv.xs b (eo.own b hb)).1 id).1
 have fr':Frm G (λb=>X b∨b=L) H' s'.heap env vars ρ:=fr.map (λb o f g=>by
  obtain⟨g',q'⟩:=st.steps b o g f.1 id
  exact⟨g',q',λz=>z.elim f.2 λz=>hf o (z ▸ g) (z ▸ f.1)⟩) keep0
 refine assign_name (O:=Own env) eo' st.inv fr' nd eo'.own h1 ownO rx λs'' st'' fr''=>?_
 have nL:¬ Own env L:=λz=>hX (eo.own L z)
 refine⟨m,?_,λh' hs=>?_⟩
 ·obtain⟨o,es',ep,g,r⟩:=hm'
  exact⟨o,es',ep,(st''.steps L o g (st.inv.xs L (.inr rfl)).1 nL).1,r⟩
 ·obtain⟨a,b⟩:=let_goO hf hX ((st.weak (λx_ z=>z.elim)).trans st'') hs
  exact⟨_,_,_,hR,a,fr''.map b λc o hc g=>(hs.2 c (λz=>nL (z ▸ hc))).trans g,.nx⟩
noncomputable def CompS (e:E):Prop:=e=.dead∨∃ frz elt t k es tests caps,e=.comp frz elt t k es tests caps
theorem comp_only {e:E}{vars:List Str}{x:Str}{ex:Expr}(h:compApart x (conc vars e ex)=true):CompS e:=by
 cases e with
 |comp frz elt t k' es tests caps=>exact .inr ⟨_,_,_,_,_,_,_,rfl⟩
 |dead=>exact .inl rfl
 |int i=>cases i<;>exact (Bool.false_ne_true h).elim
 |_=>exact (Bool.false_ne_true h).elim
theorem sndS_asg (gk:GOk G)(os:OrS G n C){k:Nat}{e:E}:SndS G C n (.asg k e):=λsc vars x hm X A env s Er ρ H Q nd eo ao iv fr hw=>by
 obtain⟨h1,hm⟩:=and2 hm
 obtain⟨h2,h3⟩:=and2 hm
 rcases Bool.or_eq_true_iff.mp h3 with hc|h3
 ·exact sndS_asg0 gk (snd gk os e).1 h1 hc h2 nd eo ao iv fr hw
 ·obtain⟨h4,h3⟩:=and2 h3
  obtain⟨h5,h6⟩:=and2 h3
  rcases comp_only h5 with rfl|⟨frz,elt,t,k',es,tests,caps,rfl⟩
  ·exact False.elim hw
  ·exact sndS_asgC gk (snd gk os elt).1 (λa x_=>(snd gk os a).2) (λa x_=>(snd gk os a).1) (comp_s h2) h1 h4 h5 h6 nd eo ao iv fr hw
end
section
variable {G:Glo}{C:Oracle}{n:Nat}
theorem some_h {α:Type}{l:List α}(h:(!l.isEmpty)=true):∃ k ks,l=k::ks:=by
 cases l with
 |nil=>exact (Bool.false_ne_true h).elim
 |cons k ks=>exact⟨k,ks,rfl⟩
theorem sndS_tryp (gk:GOk G){b:List S}(hb:SndB G C n b):SndS G C n (.tryp b):=λsc vars x hm X A env s Er ρ H Q nd eo ao iv fr hw=>by
 obtain⟨k,ks,e⟩:=some_h (and2 hm).2
 refine (?_:wpAny _ _ (exec (.Try _ (sHs x) [] [] _) _) _ _ _)
 refine rwI e ?_
 refine wpAny_Try_except (wpAny_mono (hb sc vars _ (and2 hm).1 X A env s _ ρ H Q nd eo ao iv fr hw) (λf s₁ pv1=>?_) λx_ x_ e=>e)
 obtain⟨fl,ρ₁,H₁,q,st,fr₁,r⟩:=pv1
 cases r with
 |nx=>exact wpAny_execs_nil ⟨_,_,_,q,st,fr₁,.nx⟩
 |ct=>exact⟨_,_,_,q,st,fr₁,.ct⟩
 |rt rv=>exact⟨_,_,_,q,st,fr₁,.rt rv⟩
theorem sndS_whl (gk:GOk G){t:E}{b:List S}(ht:SndT G C n t)(hb:SndB G C n b):SndS G C n (.whl t b):=λsc vars x hm X A env s Er ρ H Q nd eo ao iv fr hw=>by
 obtain⟨I,m,hI,step⟩:=hw
 refine wpAny_While (codeAny_whileLoop (λm s'=>∃ ρ' H',I m ρ' H'∧St G X (Own env) H s H' s'∧Frm G X H' s'.heap env vars ρ') (λm s' pv2=>?_) m ⟨ρ,H,hI,St.start iv,fr⟩)
 obtain⟨ρ',H',hI',st,fr'⟩:=pv2
 refine ht.use (K:=λx_ t H''=>match t with
   |true=>wB C b ρ' H'' λf ρ'' H''=>match f with
    |.rt v=>Q (.rt v) ρ'' H''
    |_=>∃ m',m' < m∧I m' ρ'' H''
   |false=>Q .nx ρ' H'') (and2 hm).1 eo ao st.inv fr' (step m ρ' H' hI') λt s₁ z H₁ x_ q st₁ iv₁ fr₁=>?_
 have st₂:=st.trans (toOwn (env:=env) st₁)
 cases t with
 |false=>exact wpAny_execs_nil ⟨_,_,_,q,st₂,fr₁,.nx⟩
 |true=>
  refine wpAny_mono (hb.use (and2 hm).2 nd eo ao st₂ fr₁ q) (λf s₃ pv3=>?_) λx_ x_ e=>e
  obtain⟨fl,ρ₃,H₃,q₃,st₃,fr₃,r⟩:=pv3
  cases r with
  |nx=>obtain⟨m',hm',hi⟩:=q₃;exact⟨m',hm',ρ₃,H₃,hi,st₃,fr₃⟩
  |ct=>obtain⟨m',hm',hi⟩:=q₃;exact⟨m',hm',ρ₃,H₃,hi,st₃,fr₃⟩
  |rt rv=>exact⟨_,_,_,q₃,st₃,fr₃,.rt rv⟩
end
section
variable {G:Glo}{C:Oracle}{n:Nat}
theorem sv_self:∀ {ρ:AEnv}{k:Nat}{v:AV},gv ρ k=some v→sv ρ k (some v)=ρ:=@λy_1=>@λy_2=>@λy_3=>@λy_4=>match @y_1,@y_2,@y_3,@y_4 with
 |[],x_1,x_2,h=>rfl
 |x::r,0,v,h=>by refine rwI (show x=some v from h) ?_;rfl
 |x::r,k+1,v,h=>congrArg (x :: ·) (sv_self (ρ:=r) (k:=k) h)
theorem store_of_bind {M:Model}{A:Around}{E:Value→Shared→Prop}{s:Shared}{env:Env}{x:Str}{v:Value}{Q:Unit→Shared→Prop}(h:wpAny M A (bindName env x v) Q E s):wpAny M A (storeName env x v) Q E s:=
 λΓ p hΓ=>by have:=h Γ p hΓ;rwa [Sem.wp_bindName] at this
theorem aug_ok {X:Nat→Prop}{H:AHeap}{A:Around}{Er:Value→Shared→Prop}{s:Shared}{op:Bin}{x y r:AV}{v u:Value}{Q:Value→Shared→Prop}(i:Inv G X H s.heap)(hv:VRel G (Fz H X) s.heap x v)(hu:VRel G (Fz H X) s.heap y u)(hr:opAug op x y=some r)
  (h:∀ w s',St G X No H s H s'→VRel G (Fz H X) s'.heap r w→Q w s'):wpAny (model G.prog G.w) A (inplaceOp (opOf op) v u) Q Er s:=by
 obtain⟨a,b,rfl,rfl,rfl,rfl⟩:=opAug_s hr
 obtain⟨t,rfl⟩:=hv.int_s
 obtain⟨t',rfl⟩:=hu.int_s
 exact AutoIntOps.iadd_0 (h _ { s with toks:=s.toks+1 } ((St.start i).toks _) (.int _ _))
theorem aug_name {k:Nat}{op:Operator}{e:E}{sc:Nms}{vars:List Str}{x:Stmt}{X:Nat→Prop}{A:Around}{env:Env}{s:Shared}{Er:Value→Shared→Prop}{ρ:AEnv}{H:AHeap}{Q:Fl→AEnv→AHeap→Prop}{K:AV→AHeap→Prop}{z:AV}(he:SndE G C n e)
  (hm:(varOk sc vars k&&mE sc vars e (sVal x))=true) (nd:vars.Nodup) (eo:EnvOk G X env sc) (ao:AOk n A) (iv:Inv G X H s.heap) (fr:Frm G X H s.heap env vars ρ) (hz:gv ρ k=some z) (hw:wE C e ρ H K)
  (h:∀ old u s₁ y H₁,K y H₁→VRel G (Fz H₁ X) s₁.heap z old→VRel G (Fz H₁ X) s₁.heap y u→Inv G X H₁ s₁.heap→wpAny (model G.prog G.w) A (inplaceOp op old u) (λw s₂=>∃ r H₂,St G X No H₁ s₁ H₂ s₂∧VRel G (Fz H₂ X) s₂.heap r w∧Q .nx (sv ρ k (some r)) H₂) Er s₁) :
  wpAny (model G.prog G.w) A (exec (.AugAssign (eName (nmOf vars k) (sTgt x)) op (conc vars e (sVal x)) x.pos) env) (PF G X H s env vars Q) Er s:=by
 obtain⟨h1,h3⟩:=and2 hm
 obtain⟨h1,h2⟩:=and2 h1
 refine wpAny_AugAssign_Name (loadVar (pos:=x.pos) eo fr (varIs_s h1).1 hz λold ro=>he.use h3 eo ao iv fr hw λu s₁ y H₁ q st ru iv₁ fr₁=>wpAny_mono (h old u s₁ y H₁ q (ro.st st) ru iv₁) (λw s₂ pv=>?_) λx_ x_ e=>e)
 obtain⟨r,H₂,st₂,rw,q⟩:=pv
 exact store_of_bind (storeVarO (O:=Own env) eo (St.start st₂.inv) (fr₁.st iv₁ eo st₂) nd (varIs_s h1).1 (kind_s h2) rw eo.own (λx_=>.inl rfl) (λc x_ hc=>.inr ⟨_,hc⟩) λs₃ st₃ fr₃=>⟨_,_,_,q,(toOwn (st.trans st₂)).trans st₃,fr₃,.nx⟩)
theorem sndS_augN (gk:GOk G){k:Nat}{op:Bin}{e:E}(he:SndE G C n e):SndS G C n (.augN k op e):=λsc vars x hm X A env s Er ρ H Q nd eo ao iv fr hw=>by
 obtain⟨z,hz,q⟩:=ok_ex hw
 refine aug_name he hm nd eo ao iv fr hz q λold u s₁ y H₁ q ro ru iv₁=>?_
 obtain⟨r,hr,q⟩:=ok_ex q
 exact aug_ok iv₁ ro ru hr λw s₂ st₂ rw=>⟨_,_,st₂,rw,q⟩
set_option tactic.hygienic true in
theorem augStore_any {i:Expr}{ov iv new:Value}(h:notSlice i=true):augStore i ov iv new=(do holding [new,ov,iv] (setItem ov iv new);release [new,ov,iv] [];pure .next):=by
 cases i<;>first|rfl|exact (Bool.false_ne_true h).elim
theorem sndS_augI (gk:GOk G){o i e:E}{op:Bin}(ho:SndE G C n o)(hi:SndE G C n i)(he:SndE G C n e):SndS G C n (.augI o i op e):=λsc vars x hm X A env s Er ρ H Q nd eo ao iv fr hw=>by
 obtain⟨h1,hm⟩:=and2 hm
 obtain⟨h2,hm⟩:=and2 hm
 refine wpAny_AugAssign_Subscript_any (ho.use h1 eo ao iv fr hw λu s₁ x1 H₁ q st ru iv₁ fr₁=>hi.got h2 eo ao iv₁ fr₁ q λw s₂ x2 H₂ g hg q st₂ rw iv₂ fr₂=>(getIx_ok iv₂ (ru.st st₂) rw hg λold t₃ rold=>?_).2) λx_ x_ x_=>augStore_any (and2 hm).2
 have st₃:St G X No H₂ s₂ H₂ { s₂ with toks:=t₃ }:=(St.start iv₂).toks _
 refine he.got (and2 hm).1 eo ao st₃.inv (fr₂.st iv₂ eo st₃) q λz s₄ x4 H₄ r hr q st₄ rz iv₄ fr₄=>aug_ok iv₄ (rold.st st₄) rz hr λw' s₅ st₅ rw'=>?_
 have st₆:=st₃.trans (st₄.trans st₅)
 refine wpAny_mono (setItem_ok (St.start st₅.inv) ((ru.st st₂).st st₆) (rw.st st₆) rw' q) (λx_ s₇ pv8=>?_) λx_ x_ e=>e
 obtain⟨H₇,q,st₇⟩:=pv8
 exact⟨_,_,_,q,toOwn (st.trans (st₂.trans (st₆.trans st₇))),(fr₄.st iv₄ eo st₅).st st₅.inv eo st₇,.nx⟩
theorem sndS_augU (gk:GOk G){k:Nat}{e:E}(he:SndE G C n e):SndS G C n (.augU k e):=λsc vars x hm X A env s Er ρ H Q nd eo ao iv fr hw=>by
 obtain⟨z,hz,q⟩:=ok_ex hw
 refine wpAny_mono (aug_name (Q:=λf ρ' H'=>Q f ρ H'∧ρ'=sv ρ k (some z)∧f=.nx) he hm nd eo ao iv fr hz q λold u s₁ y H₁ q ro ru iv₁=>?_) (λf s₂ pv=>?_) λx_ x_ e=>e
 ·obtain⟨a,m,rfl,ha,q1⟩:=q
  obtain⟨m',hm',q2⟩:=ok_ex q1
  obtain rfl:=ro.ref_s
  obtain⟨b,rfl,hb⟩:=asSet_ref hm'
  obtain rfl:=ru.ref_s
  exact ior_ok (iv₁.objs _ _ ha) (iv₁.objs _ _ hb) λh' hs r3=>
   have st₂:St G X No H₁ s₁ (upd H₁ a (.set λi=>m i||m' i)) { s₁ with heap:=h' }:=St.change (t:=s₁.toks) (St.start iv₁) ha hs r3
   ⟨_,_,st₂,.ref a,q2,rfl,rfl⟩
 ·obtain⟨fl,ρ',H',⟨q,rfl,rfl⟩,st,fr',r⟩:=pv
  exact⟨_,_,_,q,st,fr'.weak (λj w hj=>by refine rwI (sv_self hz) ?_;exact hj),r⟩
end
section
variable {G:Glo}{C:Oracle}{n:Nat}
theorem del_none {H:AHeap}{a b:Nat}(h:H b=none):del H a b=none:=by
 unfold del;split<;>first|rfl|exact h
theorem del_some {H:AHeap}{a b:Nat}{o:AObj}(h:del H a b=some o):H b=some o:=by
 unfold del at h;split at h
 ·exact none_some h
 ·exact h
theorem Inv.forget {X:Nat→Prop}{H:AHeap}{h:Heap}(i:Inv G X H h)(a:Nat):Inv G X (del H a) h where
 objs b o e:=ObjRel.mono (F:=Fz H X) (λc o f g=>⟨g,del_none f.1,f.2⟩) (λx_ g=>g) (i.objs b o (del_some e))
 base b o e:=let ⟨p,q,r⟩:=i.base b o e;⟨p,del_none q,r⟩
 xs b x:=let ⟨p,q⟩:=i.xs b x;⟨del_none p,q⟩
 low b o e:=i.low b o (del_some e)
theorem frz_ref {X:Nat→Prop}{H:AHeap}{h:Heap}(i:Inv G X H h){a:Nat}{xs:List AV}(ha:H a=some (.list xs))(hX:¬ X a):VRel G (Fz (del H a) X) h (.lst xs) (.ref a):=by
 obtain⟨vs,k,g,l,rs⟩:=i.objs _ _ ha
 exact .lst ⟨by unfold del;(refine rwI (if_pos rfl) ?_;rfl),hX⟩ g l (rs.mono λc o f g=>⟨g,del_none f.1,f.2⟩)
end
section
variable {G:Glo}{C:Oracle}{n:Nat}
theorem assign_fg {X:Nat→Prop}{H:AHeap}{A:Around}{Er:Value→Shared→Prop}{s:Shared}{env:Env}{sc:Nms}{vars:List Str}{ρ ρ':AEnv}{t:Tg}{tg:Expr}{y:AV}{v:Value}{Q:Unit→Shared→Prop}(hh:A.handled=none)(eo:EnvOk G X env sc)(nd:vars.Nodup)(hm:fgM sc vars t=true)
  (iv:Inv G X H s.heap) (fr:Frm G X H s.heap env vars ρ) (rv:VRel G (Fz H X) s.heap y v) (hb:bindT H ρ t y=some ρ')
  (h:∀ s',St G X (Own env) H s H s'→Frm G X H s'.heap env vars ρ'→Q () s'):wpAny (model G.prog G.w) A (assign (eTg vars t tg) env v) Q Er s:=by
 cases t with
 |one k=>
  cases hb
  exact assign_name eo iv fr nd eo.own hm ownO rv h
 |many ns=>
  have hm:=List.all_eq_true.mp hm
  replace hb:(unpackOf H ns.length y).map (svs ρ ns)=some ρ':=hb
  obtain⟨xs,hu,rfl⟩:=Option.map_eq_some_iff.mp hb
  exact assign_tuple hh eo nd eo.own (λk hk=>⟨hm k hk,ownO⟩) iv fr rv hu h
theorem tg_shape {vars:List Str}{t:Tg}{tg:Expr}{k:Sk}(hk:tgK k t=true):isTgt (eTg vars t tg)=true∧(tupK k=true→isTupT (eTg vars t tg)=true):=by
 cases t with
 |one _=>exact⟨rfl,λz=>by cases k<;>first|exact (Bool.false_ne_true z).elim|exact (Bool.false_ne_true hk).elim⟩
 |many _=>exact⟨rfl,λx_=>rfl⟩
end
noncomputable def forStep (C:Oracle) (t:Tg) (b:List S) (x:AV) (ρ:AEnv) (H:AHeap) (K:Fl→AEnv→AHeap→Prop):Prop:=ok (bindT H ρ t x) λρ'=>wB C b ρ' H K
noncomputable def OF (W:Nat→Prop) (env:Env) (b:Nat):Prop:=W b∨Own env b
structure FC (G:Glo)(X W:Nat→Prop)(A:Around)(env:Env)(sc:Nms)(p:List AV×Option Nat)(J:AHeap→Heap→Nat→Prop)(itv:Value)(tup:Bool)(H:AHeap)(s:Shared)(H₁:AHeap)(s₁ s₂:Shared):Prop where
 st:St G X No H s H₁ s₁
 keep:∀ b o,s₁.heap.get? b=some o→s₂.heap.get? b=some o
 same:Same s₁ s₂
 new:∀ b,W b→s₁.heap.get? b=none
 live:∀ b,W b→∃ o,s₂.heap.get? b=some o
 eo:EnvOk G X env sc
 itr:Itr G A (λb=>X b∨W b) itv tup (guardOf p.1 p.2) p.1 W J
inductive FI (G:Glo)(C:Oracle)(vars:List Str)(t:Tg)(b:List S)(env:Env)(X W:Nat→Prop)(p:List AV×Option Nat)(J:AHeap→Heap→Nat→Prop)(Q:Fl→AEnv→AHeap→Prop)(H₁:AHeap)(s₁:Shared)(m:Nat)(s:Shared):Prop
 |mk (i:Nat) (ρ:AEnv) (H:AHeap):i≤p.1.length→m=p.1.length+1 - i→forL (guardOf p.1 p.2) (forStep C t b) (p.1.drop i) ρ H Q→St G (λb=>X b∨W b) (OF W env) H₁ s₁ H s→J H s.heap i→Frm G (λb=>X b∨W b) H s.heap env vars ρ→FI G C vars t b env X W p J Q H₁ s₁ m s
section
variable {G:Glo}{C:Oracle}{n:Nat}{X W:Nat→Prop}{A:Around}{env:Env}{sc:Nms}{p:List AV×Option Nat}{J:AHeap→Heap→Nat→Prop}{itv:Value}{tup:Bool}{H H₁ H':AHeap}{s s₁ s₂ s' s₅:Shared}{vars:List Str}{t:Tg}{b:List S}{Q:Fl→AEnv→AHeap→Prop}{ρ:AEnv}{m:Nat}
theorem FC.wx (c:FC G X W A env sc p J itv tup H s H₁ s₁ s₂){b:Nat}(q:X b):¬ W b:=λz=>by obtain⟨o,g⟩:=(c.st.inv.xs b q).2;exact none_some ((c.new b z).symm.trans g)
theorem FC.old (c:FC G X W A env sc p J itv tup H s H₁ s₁ s₂)(st:St G (λb=>X b∨W b) (OF W env) H₁ s₂ H' s'){b:Nat}{o:Obj}(g:s.heap.get? b=some o)(q:H b=none)(nO:¬ Own env b):¬ W b∧s'.heap.get? b=some o∧H' b=none:=
 have k:=c.st.steps b o g q id
 have nW:¬ W b:=λz=>none_some ((c.new b z).symm.trans k.1)
 ⟨nW,st.steps b o (c.keep b o k.1) k.2 λz=>z.elim nW nO⟩
theorem FC.leave (c:FC G X W A env sc p J itv tup H s H₁ s₁ s₂){fl:Fl}{f:Flow}(q:Q fl ρ H')(st:St G (λb=>X b∨W b) (OF W env) H₁ s₂ H' s')(fr:Frm G (λb=>X b∨W b) H' s'.heap env vars ρ)(fi:Fin' W s' s₅)(r:FlR G (Fz H' X) s₅.heap fl f):PF G X H s env vars Q f s₅:=
 ⟨fl,ρ,H',q,⟨fi.inv st.inv (λb q=>.inr q) (λb q=>⟨.inl q,c.wx q⟩),λb o g q nO=>have k:=c.old st g q nO;⟨fi.keep b o k.1 k.2.1,k.2.2⟩,((c.st.same.trans c.same).trans st.same).trans fi.same⟩,
  fr.map (λb o f g=>⟨fi.keep b o (λz=>f.2 (.inr z)) g,f.1,λz=>f.2 (.inl z)⟩) λb o ho g=>fi.keep b o (c.wx (c.eo.own b ho)) g,r⟩
theorem for_next {i:Nat}(hi:i < p.1.length)(e:m=p.1.length+1 - i)(q:guardOf p.1 p.2 H'∧forL (guardOf p.1 p.2) (forStep C t b) (p.1.drop (i+1)) ρ H' Q)(st:St G (λb=>X b∨W b) (OF W env) H₁ s₂ H' s')
  (j:guardOf p.1 p.2 H'→J H' s'.heap (i+1)) (fr:Frm G (λb=>X b∨W b) H' s'.heap env vars ρ):∃ k,k < m∧FI G C vars t b env X W p J Q H₁ s₂ k s':=
 ⟨_,e ▸ Nat.sub_lt_sub_left (Nat.lt_succ_of_lt hi) (Nat.lt_succ_self i),i+1,ρ,H',hi,rfl,q.2,st,j q.1,fr⟩
theorem forL_drop {g:AHeap→Prop}{step:AV→AEnv→AHeap→(Fl→AEnv→AHeap→Prop)→Prop}{xs:List AV}{i:Nat}{x:AV}(h:xs[i]? = some x)(hc:forL g step (xs.drop i) ρ H Q) :
  step x ρ H λf ρ' H'=>match f with|.rt v=>Q (.rt v) ρ' H'|_=>g H'∧forL g step (xs.drop (i+1)) ρ' H' Q:=by
 obtain⟨hi,e⟩:=List.getElem?_eq_some_iff.mp h
 rw[List.drop_eq_getElem_cons hi,e] at hc
 exact hc
theorem sndS_forr (gk:GOk G){k:Sk}{es:List E}(hes:∀ e∈es,SndE G C n e)(hb:SndB G C n b):SndS G C n (.forr t k es b):=λsc vars x hm X A env s Er ρ H Q nd eo ao iv fr hw=>by
 have hm1:=and2 hm
 have hm2:=and2 hm1.2
 have hm3:=and2 hm2.2
 have hm4:=and2 hm3.2
 have hm5:=and2 hm4.2
 have sh:=tg_shape (vars:=vars) (tg:=sTgt x) hm5.1
 refine wpAny_For (wpAny_mono (iter_ok (P:=λp H=>forL (guardOf p.1 p.2) (forStep C t b) p.1 ρ H Q) gk hes hm2.1 hm3.1 eo ao iv fr hw) (λxv s₁ h₁=>wpAny_mono h₁ (λitv s₂ h₂=>Classical.byContradiction λhn=>?_) λx_ x_ e=>e) λx_ x_ e=>e) (folded_of hm4.1 env)
 clear h₁
 obtain⟨p,H₁,s₁',W,J,hP,hplen,st₁,hk12,hs12,hWf,hWl,hJ⟩:=h₂
 obtain⟨itr,j0⟩:=hJ (λb=>X b∨W b) (λb q=>.inr q) λb q=>q.imp id (hWf b)
 have c:FC G X W A env sc p (J λb=>X b∨W b) itv (tupK k) H s H₁ s₁' s₂:=⟨st₁,hk12,hs12,hWf,hWl,eo,itr⟩
 have eo':EnvOk G (λb=>X b∨W b) env sc:=eo.wide λb=>.inl
 refine hn (codeAny_forLoop_any (λm s'=>FI G C vars t b env X W p (J λb=>X b∨W b) Q H₁ s₂ m s') ?_ (p.1.length+1)
  ⟨0,ρ,H₁,Nat.zero_le _,rfl,by refine rwI List.drop_zero ?_;exact hP,St.start (st₁.inv.add hk12 hWf hWl),j0 _ (λb o e=>e),(fr.st iv eo st₁).map (λb o f g=>⟨hk12 b o g,f.1,λq=>q.elim f.2 λq=>none_some ((hWf b q).symm.trans g)⟩) λb o x_ g=>hk12 b o g⟩)
 clear hP hplen st₁ hk12 hs12 hWf hWl j0 itr hJ fr iv hw hn
 refine λm s' I=>Classical.byContradiction λhn=>?_
 obtain⟨i,ρ',H',hi,em,hc,st',j',fr'⟩:=I
 by_cases hlt:i < p.1.length
 ·obtain⟨x,hx⟩:∃ x,p.1[i]? = some x:=⟨_,List.getElem?_eq_getElem hlt⟩
  obtain⟨ρ'',hbt,hc⟩:=ok_ex (forL_drop hx hc)
  refine hn (c.itr.turn hx st'.inv j' (tg:=eTg vars t (sTgt _)) sh.1 sh.2 λv s₆ rv j6 stp=>?_)
  clear hn
  have iv6:=stp.inv st'.inv λb q=>.inr q
  refine assign_fg ao.hd eo' nd hm1.1 iv6 (fr'.stp stp (λb q=>.inr q) (c.wx eo.xl) λnm d hd=>c.wx (eo.xc nm d hd).1) rv hbt λs₇ st7 fr7=>?_
  refine wpAny_mono (hb sc vars _ hm5.2 _ A env s₇ _ ρ'' H' _ nd eo' ao st7.inv fr7 hc) (λf s₈ pv8=>Classical.byContradiction λhn=>?_) λx_ x_ e=>e
  obtain⟨fl,ρ₈,H₈,q8,st8,fr8,r8⟩:=pv8
  have st68:=st7.trans st8
  have st0:St G (λb=>X b∨W b) (OF W env) H₁ s₂ H₈ s₈:=(st'.trans (stp.st st'.inv (λb q=>.inr q) λb q=>.inl q)).trans (st68.weak λx_=>.inr)
  have jk:guardOf p.1 p.2 H₈→J (λb=>X b∨W b) H₈ s₈.heap (i+1):=λhg=>c.itr.keep j6 (λb o w e=>(st68.steps b o e (iv6.xs b (.inr w)).1 λq=>c.wx (eo.own b q) w).1) (st68.steps.mv eo'.own) st8.inv hg
  cases r8 with
  |nx=>exact hn (for_next hlt em q8 st0 jk fr8)
  |ct=>exact hn (for_next hlt em q8 st0 jk fr8)
  |rt rv=>exact hn (c.leave q8 st0 fr8 ⟨λx_ x_ x_ g=>g,Same.refl _⟩ (.rt (rv.mono λc o f g=>⟨g,f.1,λz=>f.2 (.inl z)⟩)))
 ·obtain rfl:i=p.1.length:=Nat.le_antisymm hi (Nat.le_of_not_lt hlt)
  rw[List.drop_length] at hc
  exact hn (c.itr.done st'.inv j' λs₅ fi=>wpAny_execs_nil (c.leave hc st' fr' fi .nx))
end
section
variable {G:Glo}{C:Oracle}{n:Nat}
theorem isGho_s {st:S}(h:isGho st=true):st=.ghost:=by
 cases st with
 |ghost=>rfl
 |_=>exact (Bool.false_ne_true h).elim
theorem sndSB (gk:GOk G)(os:OrS G n C)(hg:∀ b,SndB G C n b→SndB G C n (.ghost::b))(b:List S):SndB G C n b:=
 have eE (e:E):SndE G C n e:=(snd gk os e).1
 S.rec_1 (motive_1:=λst=>isGho st=false→SndS G C n st) (motive_2:=SndB G C n)
  (λx_=>sndS_dead) (λg=>(Bool.false_ne_true g.symm).elim) (λk e x_=>sndS_asg gk os) (λns e x_=>sndS_asgT gk (eE e)) (λo c k e x_=>sndS_asgA gk c k (eE o) (eE e))
  (λo i e x_=>sndS_asgI gk (eE o) (eE i) (eE e)) (λk op e x_=>sndS_augN gk (eE e)) (λo i op e x_=>sndS_augI gk (eE o) (eE i) (eE e)) (λk e x_=>sndS_augU gk (eE e)) (λe x_=>sndS_ex gk (eE e))
  (λt a b ha hb x_=>sndS_iff gk (snd gk os t).2 ha hb) (λt b hb x_=>sndS_whl gk (snd gk os t).2 hb) (λt k es b hb x_=>sndS_forr gk (λe x_=>eE e) hb) (λe x_=>sndS_ret gk (eE e)) (λx_=>sndS_cont)
  (λb hb x_=>sndS_tryp gk hb) sndB_nil
  (λst b hs hb=>match g:isGho st with
   |true=>isGho_s g ▸ hg b hb
   |false=>sndB_cons g (hs g) hb) b
end
section
variable {G:Glo}{C:Oracle}{n:Nat}
noncomputable def GhOk (G:Glo) (ρ:AEnv) (H:AHeap) (ρ':AEnv) (H':AHeap):Prop:=∀ X h env sc vars,vars.Nodup→EnvOk G X env sc→Inv G X H h→Frm G X H h env vars ρ→Inv G X H' h∧Frm G X H' h env vars ρ'∧∀ b,H b=none→H' b=none
theorem sndB_ghost (hv:∀ ρ H ρ' H',VS ρ H ρ' H'→GhOk G ρ H ρ' H'){b:List S}(hb:SndB G C n b):SndB G C n (.ghost::b):=λsc vars xs hm X A env s Er ρ H Q nd eo ao iv fr hw=>by
 obtain⟨ρ',H',vs,q⟩:=(show ∃ ρ' H',VS ρ H ρ' H'∧wB C b ρ' H' Q from hw)
 obtain⟨iv',fr',hn⟩:=hv _ _ _ _ vs X s.heap env sc vars nd eo iv fr
 have st:St G X (Own env) H s H' s:=⟨iv',λc o g q x_=>⟨g,hn c q⟩,Same.refl _⟩
 exact hb.use (xs:=xs) (and2 hm).2 nd eo ao st fr' q
theorem gh_refl (ρ H):GhOk G ρ H ρ H:=λX h env sc vars nd eo iv fr=>⟨iv,fr,λx_ e=>e⟩
theorem gh_trans {ρ H ρ₁ H₁ ρ₂ H₂}(a:GhOk G ρ H ρ₁ H₁)(b:GhOk G ρ₁ H₁ ρ₂ H₂):GhOk G ρ H ρ₂ H₂:=λX h env sc vars nd eo iv fr=>
 let ⟨i1,f1,n1⟩:=a X h env sc vars nd eo iv fr
 let ⟨i2,f2,n2⟩:=b X h env sc vars nd eo i1 f1
 ⟨i2,f2,λc e=>n2 c (n1 c e)⟩
theorem gh_forget (ρ H)(a:Nat):GhOk G ρ H ρ (del H a):=λX h env sc vars nd eo iv fr=>
 ⟨iv.forget a,fr.map (λb o f g=>⟨g,del_none f.1,f.2⟩) λx_ x_ x_ g=>g,λx_=>del_none⟩
end
section
variable {G:Glo}
theorem gv_set:∀ {ρ:AEnv}{n j:Nat}{v x:AV},gv (sv ρ n (some v)) j=some x→(j=n∧x=v)∨gv ρ j=some x:=@λy_1=>@λy_2=>@λy_3=>@λy_4=>@λy_5=>@λy_6=>match @y_1,@y_2,@y_3,@y_4,@y_5,@y_6 with
 |[],x_1,x_2,x_3,x_4,h=>.inr h
 |y::r,0,0,v,x,h=>.inl ⟨rfl,(Option.some.inj h).symm⟩
 |y::r,0,j+1,v,x,h=>.inr h
 |y::r,n+1,0,v,x,h=>.inr h
 |y::r,n+1,j+1,v,x,h=>by
  rcases gv_set (ρ:=r) (n:=n) (j:=j) h with⟨rfl,e⟩|e
  ·exact .inl ⟨rfl,e⟩
  ·exact .inr e
theorem notX {X:Nat→Prop}{H:AHeap}{h:Heap}(i:Inv G X H h){a:Nat}{o:AObj}(ha:H a=some o):¬ X a:=λq=>by rw[(i.xs a q).1] at ha;exact none_some ha
theorem gh_frzVar {ρ H n a xs}(hn:gv ρ n=some (.ref a))(ha:H a=some (.list xs)):GhOk G ρ H (sv ρ n (some (.lst xs))) (del H a):=λX h env sc vars nd eo iv fr=>by
 refine⟨iv.forget a,?_,λx_=>del_none⟩
 obtain⟨⟨m,hns,hvs⟩,hcs⟩:=fr
 refine⟨⟨m,hns,λj x e=>?_⟩,hcs⟩
 rcases gv_set e with⟨rfl,rfl⟩|e
 ·obtain⟨nm,v,e1,e2,e3⟩:=hvs _ _ hn
  cases e3
  exact⟨nm,_,e1,e2,frz_ref iv ha (notX iv ha)⟩
 ·obtain⟨nm,v,e1,e2,e3⟩:=hvs _ _ e
  exact⟨nm,v,e1,e2,e3.mono λb o f g=>⟨g,del_none f.1,f.2⟩⟩
end
section
variable {G:Glo}
theorem del_upd {H:AHeap}{a d:Nat}{o:AObj}(h:a≠d):del (upd H d o) a=upd (del H a) d o:=by
 funext b
 unfold del upd
 by_cases e:b=a
 ·subst e;simp[h]
 ·by_cases e':b=d
  ·subst e';simp[e]
  ·simp[e,e']
theorem upd_none {H:AHeap}{d b:Nat}{o o':AObj}(hd:H d=some o')(h:H b=none):upd H d o b=none:=by
 unfold upd;refine rwI (if_neg (by rintro rfl;rw[hd] at h;exact none_some h.symm)) ?_;exact h
theorem del_ne' {H:AHeap}{a b:Nat}(h:b≠a):del H a b=H b:=by unfold del;(refine rwI (if_neg h) ?_;rfl)
theorem gh_frzItem {ρ H a xs i b ys}(ha:H a=some (.list xs))(hi:xs[i]? = some (.ref b))(hb:H b=some (.list ys))(hab:a≠b):GhOk G ρ H ρ (del (upd H a (.list (xs.set i (.lst ys)))) b):=λX h env sc vars nd eo iv fr=>by
 refine rwI (del_upd (Ne.symm hab)) ?_
 obtain⟨i1,f1,n1⟩:=gh_forget (G:=G) ρ H b X h env sc vars nd eo iv fr
 have ha':del H b a=some (.list xs):=by refine rwI (del_ne' hab) ?_;exact ha
 have fl:=frz_ref iv hb (notX iv hb)
 obtain⟨vs,k,g,l,rs⟩:=i1.objs _ _ ha'
 have ob:ObjRel G (Fz (upd (del H b) a (.list (xs.set i (.lst ys)))) X) h a (.list (xs.set i (.lst ys))):=by
  obtain⟨w,hw,rw'⟩:=rs.get hi
  cases rw'
  have e:vs.set i (.ref b)=vs:=by
   obtain⟨hl,e⟩:=List.getElem?_eq_some_iff.mp hw
   refine rwS e ?_;exact List.set_getElem_self hl
  have r2:=rs.set fl i
  rw[e] at r2
  exact⟨vs,k,g,l,r2.mono λc o f g=>⟨g,upd_none ha' f.1,f.2⟩⟩
 refine⟨i1.change ha' (Heap.SameBut.refl ..) ob,f1.map (λb o f g=>⟨g,upd_none ha' f.1,f.2⟩) λx_ x_ x_ g=>g,λc e=>upd_none ha' (n1 c e)⟩
end
section
variable {G:Glo}
theorem set_same {vs:List Value}{k:Nat}{v:Value}(h:vs[k]? = some v):vs.set k v=vs:=by
 obtain⟨hl,e⟩:=List.getElem?_eq_some_iff.mp h
 refine rwS e ?_;exact List.set_getElem_self hl
theorem gh_frzFld {ρ H d c fs k a xs}(hd:H d=some (.ns c fs))(hk:fs[k]? = some (.ref a))(ha:H a=some (.list xs))(had:a≠d):GhOk G ρ H ρ (del (upd H d (.ns c (fs.set k (.lst xs)))) a):=λX h env sc vars nd eo iv fr=>by
 refine rwI (del_upd had) ?_
 obtain⟨i1,f1,n1⟩:=gh_forget (G:=G) ρ H a X h env sc vars nd eo iv fr
 have hd':del H a d=some (.ns c fs):=by refine rwI (del_ne (Ne.symm had)) ?_;exact hd
 have fl:=frz_ref iv ha (notX iv ha)
 obtain⟨es,m,g,kk,rs⟩:=i1.objs _ _ hd'
 have ob:ObjRel G (Fz (upd (del H a) d (.ns c (fs.set k (.lst xs)))) X) h d (.ns c (fs.set k (.lst xs))):=by
  obtain⟨w,hw,rw'⟩:=rs.get hk
  cases rw'
  have r2:=rs.set fl k
  rw[set_same hw] at r2
  exact⟨es,m,g,kk,r2.mono λc o f g=>⟨g,upd_none hd' f.1,f.2⟩⟩
 exact⟨i1.change hd' (Heap.SameBut.refl ..) ob,f1.map (λb o f g=>⟨g,upd_none hd' f.1,f.2⟩) λx_ x_ x_ g=>g,λc e=>upd_none hd' (n1 c e)⟩
theorem frz_obj {X:Nat→Prop}{H:AHeap}{h:Heap}(i:Inv G X H h){a c d:Nat}{fs:List AV}(ha:H a=some (.inst c d))(hd:H d=some (.ns c fs)):VRel G (Fz (del (del H a) d) X) h (.obj a c fs) (.ref a):=by
 have g1:=i.objs _ _ ha
 obtain⟨es,m,g2,kk,rs⟩:=i.objs _ _ hd
 exact .obj ⟨del_none (by unfold del;(refine rwI (if_pos rfl) ?_;rfl)),notX i ha⟩ ⟨by unfold del;(refine rwI (if_pos rfl) ?_;rfl),notX i hd⟩ g1 g2 kk (rs.mono λc o f g=>⟨g,del_none (del_none f.1),f.2⟩)
end
section
variable {G:Glo}{C:Oracle}{n:Nat}
theorem gh_frzObj {ρ H n a c d fs}(hn:gv ρ n=some (.ref a))(ha:H a=some (.inst c d))(hd:H d=some (.ns c fs)):GhOk G ρ H (sv ρ n (some (.obj a c fs))) (del (del H a) d):=λX h env sc vars nd eo iv fr=>by
 refine⟨(iv.forget a).forget d,?_,λx_ e=>del_none (del_none e)⟩
 obtain⟨⟨m,hns,hvs⟩,hcs⟩:=fr
 refine⟨⟨m,hns,λj x e=>?_⟩,hcs⟩
 rcases gv_set e with⟨rfl,rfl⟩|e
 ·obtain⟨nm,v,e1,e2,e3⟩:=hvs _ _ hn
  cases e3
  exact⟨nm,_,e1,e2,frz_obj iv ha hd⟩
 ·obtain⟨nm,v,e1,e2,e3⟩:=hvs _ _ e
  exact⟨nm,v,e1,e2,e3.mono λb o f g=>⟨g,del_none (del_none f.1),f.2⟩⟩
theorem gh_frzFldObj {ρ H d c fs k a c' d' fs'}(hd:H d=some (.ns c fs))(hk:fs[k]? = some (.ref a))(ha:H a=some (.inst c' d'))(hd':H d'=some (.ns c' fs'))(had:a≠d)(hdd:d'≠d) :
  GhOk G ρ H ρ (del (del (upd H d (.ns c (fs.set k (.obj a c' fs')))) a) d'):=λX h env sc vars nd eo iv fr=>by
 (refine rwI (del_upd had) ?_;refine rwI (del_upd hdd) ?_)
 obtain⟨i1,f1,n1⟩:=gh_trans (gh_forget (G:=G) ρ H a) (gh_forget ρ (del H a) d') X h env sc vars nd eo iv fr
 have hd2:del (del H a) d' d=some (.ns c fs):=by (refine rwI (del_ne (Ne.symm hdd)) ?_;refine rwI (del_ne (Ne.symm had)) ?_);exact hd
 have fl:=frz_obj iv ha hd'
 obtain⟨es,m,g,kk,rs⟩:=i1.objs _ _ hd2
 have ob:ObjRel G (Fz (upd (del (del H a) d') d (.ns c (fs.set k (.obj a c' fs')))) X) h d (.ns c (fs.set k (.obj a c' fs'))):=by
  obtain⟨w,hw,rw'⟩:=rs.get hk
  cases rw'
  have r2:=rs.set fl k
  rw[set_same hw] at r2
  exact⟨es,m,g,kk,r2.mono λc o f g=>⟨g,upd_none hd2 f.1,f.2⟩⟩
 exact⟨i1.change hd2 (Heap.SameBut.refl ..) ob,f1.map (λb o f g=>⟨g,upd_none hd2 f.1,f.2⟩) λx_ x_ x_ g=>g,λc e=>upd_none hd2 (n1 c e)⟩
theorem gh_ok {ρ H ρ' H'}(v:VS ρ H ρ' H'):GhOk G ρ H ρ' H':=by
 induction v with
 |refl ρ H=>exact gh_refl ρ H
 |trans _ _ a b=>exact gh_trans a b
 |frzVar h1 h2=>exact gh_frzVar h1 h2
 |frzFld h1 h2 h3 h4=>exact gh_frzFld h1 h2 h3 h4
 |frzItem h1 h2 h3 h4=>exact gh_frzItem h1 h2 h3 h4
 |frzObj h1 h2 h3=>exact gh_frzObj h1 h2 h3
 |frzFldObj h1 h2 h3 h4 h5 h6=>exact gh_frzFldObj h1 h2 h3 h4 h5 h6
 |forget a=>exact gh_forget _ _ a
theorem sndB (gk:GOk G)(os:OrS G n C)(b:List S):SndB G C n b:=sndSB gk os (λx_ h=>sndB_ghost (λx_ x_ x_ x_ v=>gh_ok v) h) b
end
structure FnOk (G:Glo)(f:Nat)(fa:Addr)(d:FnDef)(vs:List Str)(o:Obj)(fd:FuncData)(body:List Stmt)(ps:List Arg):Prop where
 tab:tabP f=some d
 ho:G.h0.get? fa=some o
 hd:o.data=.func fd
 hb:fd.body=.stmts (concB vs d.body body)
 cr:G.h0.CodeRec fd.code fd.qualname
 cl:fd.closure=[]
 gl:fd.globals=mainGlobals
 bi:fd.builtins=builtinsNs
 hk:fd.scope.kind=.function
 hg:fd.scope.isGenerator=false
 hc:fd.scope.isCoroutine=false
 mt:mB fd.scope.names vs d.body body=true
 nd:vs.Nodup
 pa:∃ kd df,fd.params=⟨[],ps,none,[],kd,none,df⟩
 pn:ps.map (·.arg)=vs.take d.np
 nl:d.np≤vs.length
 lc:∀ x∈vs.take d.np,fd.scope.names.lookup x=some .local∨fd.scope.names.lookup x=some .cell
 df:fd.defaults=.none
noncomputable def FnAt (G:Glo) (f:Nat) (fa:Addr):Prop:=∃ d vs o fd body ps,FnOk G f fa d vs o fd body ps
structure GFn (G:Glo):Prop where
 fns:∀ f fa,f < 46→G.mg (S' (fnN f))=some (.ref fa)→FnAt G f fa
 ini:∀ c,c < 3→makesIn G.K (G.cls c)=true∧∃ fI,findIn G.K (.ref (G.cls c)) "__init__" = some (some (.ref fI))∧typeIn G.K (.ref fI)=some (.type "function")∧FnAt G (initIx c) fI
theorem zip_lookup:∀ {ns:List Str}{vs:List Value},vs.length=ns.length→ns.Nodup→∀ {i:Nat}{n:Str}{v:Value},ns[i]? = some n→vs[i]? = some v→(ns.zip vs).lookup n=some v:=@λy_1=>@λy_2=>@λy_3=>@λy_4=>@λy_5=>@λy_6=>@λy_7=>@λy_8=>@λy_9=>match @y_1,@y_2,@y_3,@y_4,@y_5,@y_6,@y_7,@y_8,@y_9 with
 |[],x_1,x_2,x_3,i,x_4,x_5,h,x_6=>by simp at h
 |m::ns,[],h,x_1,x_2,x_3,x_4,x_5,x_6=>by simp at h
 |m::ns,w::vs,hl,nd,i,n,v,hn,hv=>by
  (refine rwI List.zip_cons_cons ?_;refine rwI List.lookup_cons ?_)
  cases i with
  |zero=>simp at hn hv;subst hn hv;simp
  |succ i=>
   simp only[List.getElem?_cons_succ] at hn hv
   obtain⟨h1,h2⟩:=List.nodup_cons.mp nd
   have:(n==m)=false:=by
    refine rwI (propext beq_eq_false_iff_ne) ?_;rintro rfl
    exact h1 (List.mem_of_getElem? hn)
   refine rwI this ?_
   exact zip_lookup (by simpa using hl) h2 hn hv
theorem fm_congr {α β:Type}{f g:α→Option β}:∀ {l:List α},(∀ x∈l,f x=g x)→l.filterMap f=l.filterMap g:=@λy_1=>@λy_2=>match @y_1,@y_2 with
 |[],x_1=>rfl
 |x::l,h=>by (refine rwI List.filterMap_cons ?_;refine rwI List.filterMap_cons ?_;refine rwI (h x (.head _)) ?_;refine rwI (fm_congr λy hy=>h y (.tail _ hy)) ?_;rfl)
theorem zip_fm:∀ {ns:List Str}{vs:List Value},vs.length=ns.length→ns.Nodup→ns.filterMap (λn=>((ns.zip vs).lookup n).map (n,·))=ns.zip vs:=@λy_1=>@λy_2=>@λy_3=>@λy_4=>match @y_1,@y_2,@y_3,@y_4 with
 |[],x_1,x_2,x_3=>by simp
 |m::ns,[],h,x_1=>by simp at h
 |m::ns,w::vs,hl,nd=>by
  obtain⟨h1,h2⟩:=List.nodup_cons.mp nd
  (refine rwI List.zip_cons_cons ?_;refine rwI List.filterMap_cons ?_;refine rwI List.lookup_cons ?_;refine rwI (beq_self_eq_true ..) ?_)
  simp only[Option.map_some]
  congr 1
  refine Eq.trans (fm_congr λn hn=>?_) (zip_fm (by simpa using hl) h2)
  have:(n==m)=false:=by
   refine rwI (propext beq_eq_false_iff_ne) ?_;rintro rfl
   exact h1 hn
  (refine rwI List.lookup_cons ?_;refine rwI this ?_;rfl)
theorem zip_has {ns:List Str}{vs:List Value}(hl:vs.length=ns.length)(nd:ns.Nodup){n:Str}(hn:n∈ns):((ns.zip vs).lookup n).isNone=false:=by
 obtain⟨i,hi⟩:=List.getElem?_of_mem hn
 have:i < vs.length:=by refine rwI hl ?_;exact (List.getElem?_eq_some_iff.mp hi).1
 refine rwI (zip_lookup hl nd hi (List.getElem?_eq_getElem this)) ?_;rfl
theorem bind_plain {fd:FuncData}{ps:List Arg} {kd df vals}(hp:fd.params=⟨[],ps,none,[],kd,none,df⟩)(nd:(ps.map (·.arg)).Nodup)(hl:vals.length=ps.length)(hd:fd.defaults=.none) :
  bindArgs fd ⟨vals,[]⟩=pure ((ps.map (·.arg)).zip vals):=by
 have hl':vals.length=(ps.map (·.arg)).length:=by refine rwI (List.length_map ..) ?_;exact hl
 have hm:(List.filter (λn:Str=>((List.zip (ps.map (·.arg)) vals).lookup n).isNone) (List.take (ps.map (·.arg)).length (ps.map (·.arg))))=[]:=by
  refine rwI (propext List.filter_eq_nil_iff) ?_
  intro n hn
  refine rwI (zip_has hl' nd (List.mem_of_mem_take hn)) ?_;decide
 have hz:List.filterMap (λn:Str=>((List.zip (ps.map (·.arg)) vals).lookup n).map λv=>(n,v)) (ps.map (·.arg)++[])=List.zip (ps.map (·.arg)) vals:=by
  refine rwI (List.append_nil ..) ?_;exact zip_fm hl' nd
 have h1:¬ (vals.length > (ps.map (·.arg)).length):=by refine rwI hl' ?_;exact Nat.lt_irrefl _
 clear hl hl' nd
 cases fd
 cases hp
 cases hd
 refine Eq.trans (if_neg λe=>h1 (of_decide_eq_true (Bool.and_eq_true_iff.mp e).1)) ?_
 clear h1
 generalize hD:List.drop _ _=D
 obtain rfl:[]=D:=by refine rwS hD ?_;exact List.drop_nil.symm
 clear hD
 refine Eq.trans (if_neg λe=>Bool.false_ne_true ((congrArg (λl=>!List.isEmpty l) hm).symm.trans e)) ?_
 clear hm
 generalize hD:List.zip _ ([]:List Value)=D
 obtain rfl:[]=D:=by refine rwS hD ?_;exact List.zip_nil_right.symm
 clear hD
 exact congrArg (λl=>(pure l:Sem (List (Str×Value)))) hz
theorem bindL_other {k:Str→Option NameKind}{n:Str}:∀ {bs:List (Str×Value)}{m:Str→Option Value},(∀ p∈bs,p.1≠n)→bindL k bs m n=m n:=@λy_1=>@λy_2=>@λy_3=>match @y_1,@y_2,@y_3 with
 |[],x_1,x_2=>rfl
 |(x,v)::r,m,h=>by
  unfold bindL
  refine rwI (bindL_other λp hp=>h p (.tail _ hp)) ?_
  split
  ·exact if_neg λe=>h (x,v) (.head _) e.symm
  ·rfl
theorem bindL_get {k:Str→Option NameKind}{n:Str}{v:Value}(hk:k n=some .local):∀ {bs:List (Str×Value)}{m:Str→Option Value},(bs.map (·.1)).Nodup→(n,v)∈bs→bindL k bs m n=some v:=@λy_1=>@λy_2=>@λy_3=>@λy_4=>match @y_1,@y_2,@y_3,@y_4 with
 |(x,w)::r,m,nd,h=>by
  obtain⟨h1,h2⟩:=List.nodup_cons.mp nd
  unfold bindL
  rcases List.mem_cons.mp h with e|h
  ·cases e
   (refine rwI (bindL_other λp hp e=>h1 (List.mem_map.mpr ⟨p,hp,e⟩)) ?_;refine rwI (if_pos hk) ?_);exact if_pos rfl
  ·exact bindL_get hk h2 h
theorem bindC_other {k:Str→Option NameKind}{n:Str}:∀ {bs:List (Str×Value)}{m:Str→Option Value},(∀ p∈bs,p.1≠n)→bindC k bs m n=m n:=@λy_1=>@λy_2=>@λy_3=>match @y_1,@y_2,@y_3 with
 |[],x_1,x_2=>rfl
 |(x,v)::r,m,h=>by
  unfold bindC
  refine rwI (bindC_other λp hp=>h p (.tail _ hp)) ?_
  split
  ·rfl
  ·exact if_neg λe=>h (x,v) (.head _) e.symm
theorem bindC_get {k:Str→Option NameKind}{n:Str}{v:Value}(hk:k n=some .cell):∀ {bs:List (Str×Value)}{m:Str→Option Value},(bs.map (·.1)).Nodup→(n,v)∈bs→bindC k bs m n=some v:=@λy_1=>@λy_2=>@λy_3=>@λy_4=>match @y_1,@y_2,@y_3,@y_4 with
 |(x,w)::r,m,nd,h=>by
  obtain⟨h1,h2⟩:=List.nodup_cons.mp nd
  unfold bindC
  rcases List.mem_cons.mp h with e|h
  ·cases e
   rw[bindC_other λp hp e=>h1 (List.mem_map.mpr ⟨p,hp,e⟩),if_neg (by refine rwI hk ?_;decide)];exact if_pos rfl
  ·exact bindC_get hk h2 h
theorem gv_args {args:List AV}{m i:Nat}{x:AV}(h:gv (args.map some++emptyEnv m) i=some x):args[i]? = some x:=by
 have emp:∀ m i,gv (emptyEnv m) i=none:=by
  intro m;induction m with
  |zero=>intro i;rfl
  |succ m ih=>intro i;cases i with|zero=>rfl|succ i=>exact ih i
 induction args generalizing i with
 |nil=>rw[List.map_nil,List.nil_append,emp] at h;exact none_some h
 |cons y args ih=>
  cases i with
  |zero=>exact h
  |succ i=>exact ih h
section
variable {G:Glo}{C:Oracle}{n:Nat}
theorem fn_call (gk:GOk G)(os:OrS G n C){f fa:Nat} {d vs o fd body ps}(fo:FnOk G f fa d vs o fd body ps){A:Around}{X:Nat→Prop}{s:Shared}{H:AHeap}{xs:List AV}{us:List Value}{R:AV→AHeap→Prop}{Rr:Result→Shared→Prop}
  (room:A.depth < recursionLimit) (ao:∀ env,AOk n (A.deeper env)) (iv:Inv G X H s.heap) (rs:VRels G (Fz H X) s.heap xs us) (hw:callFn C d xs H R)
  (hR:∀ v s',PV G X H s R v s'→Rr (.ok (.ret v)) s'):codeAny (model G.prog G.w) A (.call (.ref fa) ⟨us,[]⟩) Rr s:=by
 obtain⟨hl,hw⟩:=hw
 obtain⟨kd,df,hpa⟩:=fo.pa
 have hk0:=iv.keeps0
 have lus:us.length=ps.length:=by
  have:ps.length=(vs.take d.np).length:=by (refine rwS fo.pn ?_;refine rwI (List.length_map ..) ?_;rfl)
  (refine rwI rs.length ?_;refine rwI hl ?_;refine rwI this ?_;refine rwI List.length_take ?_;refine rwI (Nat.min_eq_left fo.nl) ?_;rfl)
 have ndp:(ps.map (·.arg)).Nodup:=by refine rwI fo.pn ?_;exact List.Sublist.nodup (List.take_sublist _ _) fo.nd
 have hb:=bind_plain (fd:=fd) hpa ndp lus fo.df
 have kinds:∀ x∈(ps.map (·.arg)).zip us,fd.scope.names.lookup x.1=some .local∨fd.scope.names.lookup x.1=some .cell:=λx hx=>fo.lc x.1 (fo.pn ▸ (List.of_mem_zip hx).1)
 refine codeAny_call_cells room (hk0 _ _ fo.ho) fo.hd (gk.nolimit.keeps hk0) (by
  obtain⟨c,o',vs',t,e1,e2,e3,e4⟩:=fo.cr
  exact⟨c,o',vs',t,e1,hk0 _ _ e2,e3,e4⟩) fo.hb hb fo.cl (λx hx=>?_) (λs₁ ic=>?_) fo.hc fo.hg fo.hk
 ·rcases kinds x hx with q|q
  ·exact .inl q
  ·exact .inr ⟨q,cellsFrom_some _ _ _ (.inl q)⟩
 have ek:∀ z,(callEnvC fd s.heap.objs.size fa).kindOf z=fd.scope.names.lookup z:=λz=>rfl
 have el:(callEnvC fd s.heap.objs.size fa).locals=s.heap.objs.size:=rfl
 have ec:(callEnvC fd s.heap.objs.size fa).cells=cellsFrom (s.heap.objs.size+1) fd.scope.names []:=rfl
 generalize hX:(λb=>X b∨b=s.heap.objs.size∨∃ z,(callEnvC fd s.heap.objs.size fa).cells.lookup z=some b)=X'
 have alive:∀ {b:Nat},(∃ o,s.heap.get? b=some o)→¬ X b→¬ X' b:=by
  rintro b ⟨o,ho⟩ nx hx
  subst hX
  have lt:=Heap.lt_size ho
  rcases hx with hx|hx|⟨z,hz⟩
  ·exact nx hx
  ·exact Nat.lt_irrefl _ (hx ▸ lt)
  ·exact Nat.lt_asymm (ic.above z b (mem_of_lookup hz)) lt
 have keep:=ic.toInCall.keep
 have fz:∀ b o,Fz H X b→s.heap.get? b=some o→s₁.heap.get? b=some o∧Fz H X' b:=λb o f e=>⟨keep b o e,f.1,alive ⟨o,e⟩ f.2⟩
 have iv':Inv G X' H s₁.heap:=by
  refine⟨λa o e=>(iv.objs a o e).mono fz λo' g=>keep a o' g,λb o e=>?_,λb hb=>?_,iv.low⟩
  ·obtain⟨x,y,z⟩:=iv.base b o e
   exact⟨keep _ _ x,y,alive ⟨o,x⟩ z⟩
  ·have dead:s.heap.objs.size≤b→H b=none:=λh=>(iv.free (by
    cases q:s.heap.get? b with
    |none=>rfl
    |some o=>exact absurd (Heap.lt_size q) (Nat.not_lt.mpr h))).1
   subst hX
   rcases hb with hb|rfl|⟨z,hz⟩
   ·obtain⟨y,o,e⟩:=iv.xs b hb
    exact⟨y,o,keep _ _ e⟩
   ·obtain⟨o,_,_,ho,_⟩:=ic.toInCall.ns
    exact⟨dead (Nat.le_refl _),o,ho⟩
   ·obtain⟨o,ho,_⟩:=ic.cell z b hz
    refine⟨dead ?_,o,ho⟩
    have:=ic.above z b (mem_of_lookup hz);rw[el] at this;exact Nat.le_of_lt this
 have eo:EnvOk G X' (callEnvC fd s.heap.objs.size fa) fd.scope.names:=by
  refine⟨fo.hk,rfl,fo.gl,fo.bi,?_,λz c hz=>⟨?_,?_⟩,λz z' c h1 h2=>name_of_addr ic.apart (mem_of_lookup h1) (mem_of_lookup h2),λz hz=>?_,_,fo.cr⟩
  ·subst hX;exact .inr (.inl rfl)
  ·subst hX;exact .inr (.inr ⟨z,hz⟩)
  ·exact Nat.ne_of_gt (ic.above z c (mem_of_lookup hz))
  ·refine rwI ec ?_;exact cellsFrom_some _ _ _ (.inl hz)
 have rs':VRels G (Fz H X') s₁.heap xs us:=rs.mono fz
 have fr:Frm G X' H s₁.heap (callEnvC fd s.heap.objs.size fa) vs (xs.map some++emptyEnv (d.nv - d.np)):=by
  refine⟨⟨_,ic.toInCall.ns,λi x hx=>?_⟩,λz c hz=>⟨_,ic.cell z c hz⟩⟩
  have hx':=gv_args hx
  obtain⟨v,hv,r⟩:=rs'.get hx'
  have li:i < xs.length:=(List.getElem?_eq_some_iff.mp hx').1
  have lv:i < vs.length:=by rw[hl] at li;exact Nat.lt_of_lt_of_le li fo.nl
  have ht:(vs.take d.np)[i]? = some vs[i]:=by refine rwI (List.getElem?_take) ?_;rw[hl] at li;refine rwI (if_pos li) ?_;exact List.getElem?_eq_getElem lv
  have hz:((ps.map (·.arg)).zip us)[i]? = some (vs[i],v):=by
   refine rwI (propext (List.getElem?_zip_eq_some)) ?_
   exact⟨by refine rwI fo.pn ?_;exact ht,hv⟩
  have hm:(vs[i],v)∈(ps.map (·.arg)).zip us:=List.mem_of_getElem? hz
  have ndz:(((ps.map (·.arg)).zip us).map (·.1)).Nodup:=by
   rw[List.map_fst_zip (by refine rwI (List.length_map ..) ?_;lia)];exact ndp
  refine⟨vs[i],v,List.getElem?_eq_getElem lv,?_,r⟩
  rcases kinds _ hm with q|q
  ·exact .loc ((ek _).trans q) (bindL_get ((ek _).trans q) ndz hm)
  ·obtain⟨c,hc⟩:=Option.isSome_iff_exists.mp (eo.hc _ q)
   have:=ic.cell _ c hc
   rw[bindC_get ((ek _).trans q) ndz hm] at this
   exact .cell ((ek _).trans q) hc this
 refine wpAny_mono (sndB gk os d.body fd.scope.names vs body fo.mt X' _ _ s₁ (λx_ x_=>False) _ H _ fo.nd eo (ao _) iv' fr hw) (λfl s' hp=>?_) λx_ x_ e=>e.elim
 obtain⟨f',ρ',H',q,st,fr',fl'⟩:=hp
 have mX:∀ b o,Fz H' X' b→s'.heap.get? b=some o→s'.heap.get? b=some o∧Fz H' X b:=λb o f g=>⟨g,f.1,λx=>f.2 (hX ▸ .inl x)⟩
 have st':St G X No H s H' s':=by
  refine⟨⟨λa o e=>(st.inv.objs a o e).mono mX λx_ g=>g,λb o e=>?_,λb hb=>st.inv.xs b (hX ▸ .inl hb),st.inv.low⟩,λb o e q x_=>?_,?_⟩
  ·obtain⟨x,y,z⟩:=st.inv.base b o e
   exact⟨x,y,λhx=>z (hX ▸ .inl hx)⟩
  ·refine st.steps b o (keep b o e) q λown=>?_
   have lt:=Heap.lt_size e
   rcases own with rfl|⟨z,hz⟩
   ·exact Nat.lt_irrefl _ lt
   ·exact Nat.lt_asymm (ic.above z b (mem_of_lookup hz)) lt
  ·obtain⟨h₁,tk,e⟩:=ic.toInCall.same
   have:Same s s₁:=by refine rwI e ?_;exact⟨rfl,rfl⟩
   exact this.trans st.same
 cases fl' with
 |nx=>exact hR _ _ ⟨.none,H',q,st',.none⟩
 |ct=>exact hR _ _ ⟨.none,H',q,st',.none⟩
 |rt r=>exact hR _ _ ⟨_,H',q,st',r.mono mX⟩
end
theorem under_make (A:Around)(C:Addr)(vals:List Value):(A.under (.builtin "type.__call__" ⟨.ref C::vals,[]⟩)).depth=A.depth+1∧(A.under (.builtin "type.__call__" ⟨.ref C::vals,[]⟩)).units=A.units+1:=⟨rfl,rfl⟩
section
variable {G:Glo}{C:Oracle}{n:Nat}
theorem ors (gk:GOk G)(gf:GFn G):∀ n,OrS G n (Cn tabP n):=by
 intro n
 have clsOk:∀ n:Nat,∀ C':Oracle,(∀ c xs H R,c < 3→C' (initIx c) xs H R→∃ m C d,n=m+1∧OrS G m C∧tabP (initIx c)=some d∧callFn C d xs H R) →
   ∀ c P,c < 3→OrOk G n (.ref (G.cls c)) P (opMk C' P c):=by
  intro n C' hC c P hc A X s H xs us R Er ao iv rs hL hw
  obtain⟨hh,g,dr,t,os⟩:=s
  obtain⟨_,hw⟩:=hw
  obtain⟨hmk,fI,h1,h2,⟨d',vs,o,fd,body,ps,fo⟩⟩:=gf.ini c hc
  have hk0:=iv.keeps0
  have X':=gk.X.keeps hk0
  refine wpAny_call (make_core (makes_of X' hmk) (looks_findIn X' h1) (λself=>bind_fn X' self h2) (.inl rfl) ?_)
  have i0:=get?_size hh
  have k1:∀ b o,hh.get? b=some o→(hh.push emptyDict).get? b=some o:=push_keeps hh _
  have k2:∀ b o,(hh.push emptyDict).get? b=some o→((hh.push emptyDict).push (instObj (G.cls c) hh.objs.size)).get? b=some o:=push_keeps _ _
  have big:=iv.size gk
  have gd:(hh.push emptyDict).get? hh.objs.size=some (dictOf [] 0):=Heap.get?_push_size hh rfl
  have iv1:Inv G X (upd H hh.objs.size (.ns c [])) (hh.push emptyDict):=
   iv.alloc (o':=.ns c []) big i0 k1 ⟨[],0,gd,by rfl,.nil⟩
  have i1:(hh.push emptyDict).get? (hh.objs.size+1)=none:=by
   have:=get?_size (hh.push emptyDict)
   rwa [Heap.size_push] at this
  have ga:((hh.push emptyDict).push (instObj (G.cls c) hh.objs.size)).get? (hh.objs.size+1)=some (instObj (G.cls c) hh.objs.size):=by
   have:=Heap.get?_push_size (hh.push emptyDict) (o:=instObj (G.cls c) hh.objs.size) rfl
   rwa [Heap.size_push] at this
  have iv2:Inv G X (upd (upd H hh.objs.size (.ns c [])) (hh.objs.size+1) (.inst c hh.objs.size)) ((hh.push emptyDict).push (instObj (G.cls c) hh.objs.size)):=
   iv1.alloc (o':=.inst c hh.objs.size) (Nat.lt_succ_of_lt big) i1 k2 ga
  have i1':hh.get? (hh.objs.size+1)=none:=by
   cases q:hh.get? (hh.objs.size+1) with
   |none=>rfl
   |some o=>have:=Heap.lt_size q;exact absurd this (Nat.not_lt.mpr (Nat.le_succ _))
  have steps:Steps No H hh (upd (upd H hh.objs.size (.ns c [])) (hh.objs.size+1) (.inst c hh.objs.size)) ((hh.push emptyDict).push (instObj (G.cls c) hh.objs.size)):=
   (Steps.alloc i0 k1).trans (Steps.alloc i1 k2)
  have hw':=hw (hh.objs.size+1) hh.objs.size (iv.free i1').1 (iv.free i0).1 (Nat.succ_ne_self _) (λp=>by
   obtain⟨o,e⟩:=hL _ p
   have e:hh.get? (hh.objs.size+1)=some o:=e
   rw[i1'] at e;exact none_some e)
  obtain⟨m,C'',d,rfl,os',ht,hcall⟩:=hC c _ _ _ hc hw'
  have hd:d'=d:=by have:=fo.tab;rw[ht] at this;cases this;rfl
  subst hd
  have um:=under_make A (G.cls c) us
  have st0:St G X No H ⟨hh,g,dr,t,os⟩ (upd (upd H hh.objs.size (.ns c [])) (hh.objs.size+1) (.inst c hh.objs.size)) ⟨(hh.push emptyDict).push (instObj (G.cls c) hh.objs.size),g,dr,t,os⟩:=⟨iv2,steps,rfl,rfl⟩
  refine fn_call gk os' fo (s:=⟨(hh.push emptyDict).push (instObj (G.cls c) hh.objs.size),g,dr,t,os⟩) (by refine rwI um.1 ?_;have:=ao.dp;refine (?_:_ < 1000);lia) (λenv=>⟨ao.hd,?_,?_⟩) iv2 (.cons (.ref _) (rs.step steps λx_ e=>e.elim)) hcall λv s' ⟨x,H',⟨hx,hr⟩,st,r⟩=>?_
  ·refine (?_:(A.under _).depth+1+_≤_);refine rwI um.1 ?_;have:=ao.dp;lia
  ·refine (?_:(A.under _).units+3+_≤_);refine rwI um.2 ?_;have:=ao.un;lia
  ·subst hx
   cases r
   exact⟨rfl,_,H',hr,st0.trans st,.ref _⟩
 induction n with
 |zero=>exact⟨λf fa hf hm A X s H xs us R Er ao iv rs hL hw=>(Cn_zero hw).elim,clsOk 0 _ λc xs H R hc hw=>(Cn_zero hw).elim⟩
 |succ n ih=>
  refine⟨λf fa hf hm A X s H xs us R Er ao iv rs hL hw=>?_,clsOk (n+1) _ λc xs H R hc hw=>(Cn_succ hw).elim λd q=>⟨n,_,d,rfl,ih,q.1,q.2⟩⟩
  obtain⟨d,hd,hw⟩:=Cn_succ hw
  obtain⟨d',vs,o,fd,body,ps,fo⟩:=gf.fns f fa hf hm
  have he:d'=d:=by have:=fo.tab;rw[hd] at this;(replace this:=Option.some.inj this;subst this);rfl
  subst he
  exact wpAny_call (fn_call gk ih fo (by have:=ao.dp;refine (?_:_ < 1000);lia) (λenv=>⟨ao.hd,by refine (?_:A.depth+1+_≤_);have:=ao.dp;lia,by refine (?_:A.units+3+_≤_);have:=ao.un;lia⟩) iv rs hw λv s' p=>p)
end
noncomputable def biV:Value→Option String:=@λy_1=>match @y_1 with
 |.builtin m=>some m
 |x_1=>none
theorem biV_s {v:Value}{n:String}(h:biV v=some n):v=.builtin n:=by
 cases v with
 |builtin m=>exact congrArg _ (Option.some.inj h)
 |_=>exact none_some h
noncomputable def refV:Value→Option Nat:=@λy_1=>match @y_1 with
 |.ref a=>some a
 |x_1=>none
theorem refV_s {v:Value}{a:Nat}(h:refV v=some a):v=.ref a:=by
 cases v with
 |ref b=>exact congrArg _ (Option.some.inj h)
 |_=>exact none_some h
noncomputable def tyV:Value→Option String:=@λy_1=>match @y_1 with
 |.type m=>some m
 |x_1=>none
theorem tyV_s {v:Value}{n:String}(h:tyV v=some n):v=.type n:=by
 cases v with
 |type m=>exact congrArg _ (Option.some.inj h)
 |_=>exact none_some h
noncomputable def got {α:Type}:Option (Option α)→Option α:=@λy_1=>match @y_1 with
 |some o=>o
 |none=>none
theorem got_s {α:Type}{o:Option (Option α)}{x:α}(h:got o=some x):o=some (some x):=by
 cases o with
 |none=>exact none_some h
 |some o=>exact congrArg some h
theorem bind_s {α β:Type}{o:Option α}{f:α→Option β}{y:β}(h:o.bind f=some y):∃ x,o=some x∧f x=some y:=by
 cases o with
 |none=>exact none_some h
 |some x=>exact⟨x,rfl,h⟩
theorem any_s {α:Type}{o:Option α}{f:α→Bool}(h:o.any f=true):∃ x,o=some x∧f x=true:=by
 cases o with
 |none=>exact (Bool.false_ne_true h).elim
 |some x=>exact⟨x,rfl,h⟩
noncomputable def funD:Data→Option FuncData:=@λy_1=>match @y_1 with
 |.func fd=>some fd
 |x_1=>none
theorem funD_s {d:Data}{fd:FuncData}(h:funD d=some fd):d=.func fd:=by
 cases d with
 |func m=>exact congrArg _ (Option.some.inj h)
 |_=>exact none_some h
noncomputable def isBi (v:Option (Option Value)) (n:String):Bool:=((got v).bind biV).any (· == n)
theorem isBi_s {v:Option (Option Value)}{n:String}(h:isBi v n=true):v=some (some (.builtin n)):=by
 obtain⟨m,e,h⟩:=any_s h
 obtain⟨x,e,q⟩:=bind_s e
 (refine rwI (got_s e) ?_;refine rwI (biV_s q) ?_;refine rwI (eq_of_beq h) ?_;rfl)
noncomputable def atK (K:Frag) (x:String):Option Addr:=(got (nsIn K mainGlobals (S' x))).bind refV
theorem atK_s {K:Frag}{x:String}{a:Addr}(h:atK K x=some a):nsIn K mainGlobals (S' x)=some (some (.ref a)):=by
 obtain⟨y,e,q⟩:=bind_s h
 (refine rwI (got_s e) ?_;refine rwI (refV_s q) ?_;rfl)
noncomputable def clsAt (K:Frag) (c:Nat):Addr:=(atK K (clsN c)).getD 0
noncomputable def bodyD (fd:FuncData):Option (List Stmt):=match fd.body with
 |.stmts b=>some b
 |_=>none
theorem bodyD_s {fd:FuncData}{b:List Stmt}(h:bodyD fd=some b):fd.body=.stmts b:=by
 unfold bodyD at h
 generalize fd.body=x at h ⊢
 cases x with
 |stmts c=>exact congrArg _ (Option.some.inj h)
 |_=>exact none_some h
noncomputable def funK (K:Frag) (fa:Addr):Option FuncData:=(K.lookup fa).bind λo=>funD o.data
noncomputable def bodyAt (K:Frag) (fa:Addr):Option (List Stmt):=(funK K fa).bind bodyD
noncomputable def irOf (f:Nat):List S:=match tabP f with
 |some d=>d.body
 |none=>[]
noncomputable def made (B:Nat→List Stmt) (f:Nat):Option (List Stmt):=some (concB ((varsP f).map S') (irOf f) (B f))
noncomputable def isNoneV:Value→Bool:=@λy_1=>match @y_1 with
 |.none=>true
 |x_1=>false
theorem isNoneV_s {v:Value}(h:isNoneV v=true):v=.none:=by
 cases v with
 |none=>rfl
 |_=>exact (Bool.false_ne_true h).elim
noncomputable def parOk (p:Arguments):Bool:=p.posonlyargs.isEmpty&&(p.vararg.isNone&&(p.kwonlyargs.isEmpty&&p.kwarg.isNone))
theorem parOk_s {p:Arguments}(h:parOk p=true):∃ kd df,p=⟨[],p.args,none,[],kd,none,df⟩:=by
 obtain⟨a,b,c,d,e,f,g⟩:=p
 obtain⟨h1,h⟩:=and2 h
 obtain⟨h2,h⟩:=and2 h
 obtain⟨h3,h4⟩:=and2 h
 obtain rfl:=List.isEmpty_iff.mp h1
 obtain rfl:=Option.isNone_iff_eq_none.mp h2
 obtain rfl:=List.isEmpty_iff.mp h3
 obtain rfl:=Option.isNone_iff_eq_none.mp h4
 exact⟨e,g,rfl⟩
noncomputable def fnOne (B:Nat→List Stmt) (K:Frag) (f:Nat) (vs:List Str) (d:FnDef) (fd:FuncData):Bool:=
 mB fd.scope.names vs d.body (B f)&&(codeIn K fd.code fd.qualname&&(fd.closure.isEmpty&&(decide (fd.globals=mainGlobals)&&(decide (fd.builtins=builtinsNs)&&(isFunK fd.scope.kind&&(!fd.scope.isGenerator&&(!fd.scope.isCoroutine&&(nodupB vs &&
  (parOk fd.params&&(fd.params.args.map (·.arg)==vs.take d.np&&(decide (d.np≤vs.length)&&((vs.take d.np).all (λx=>isL fd.scope.names x||isC fd.scope.names x)&&isNoneV fd.defaults))))))))))))
noncomputable def fnChk (B:Nat→List Stmt) (K:Frag) (f:Nat) (fa:Addr):Bool:=(tabP f).any λd=>(funK K fa).any λfd=>fnOne B K f ((varsP f).map S') d fd
noncomputable def fnsChk (B:Nat→List Stmt) (K:Frag) (f:Nat):Bool:=(atK K (fnN f)).any λfa=>keepIn K (.ref fa)&&fnChk B K f fa
noncomputable def fnAddr (K:Frag) (f:Nat):Addr:=(atK K (fnN f)).getD 0
noncomputable def iniV (K:Frag) (c:Nat):Option Addr:=(got (findIn K (.ref (clsAt K c)) "__init__")).bind refV
noncomputable def iniAddr (K:Frag) (c:Nat):Addr:=(iniV K c).getD 0
noncomputable def iniChk (B:Nat→List Stmt) (K:Frag) (c:Nat):Bool:=makesIn K (clsAt K c)&&(iniV K c).any λfI=>((typeIn K (.ref fI)).bind tyV).any (· == "function")&&fnChk B K (46+c) fI
noncomputable def clsChk (K:Frag) (c:Nat):Bool:=
 (atK K (clsN c)).isSome&&(keepIn K (.ref (clsAt K c))&&(isBi (findIn K (.ref (clsAt K c)) "__getattribute__") "object.__getattribute__" && (hasDictIn K (clsAt K c) &&
 ((flds c).all (λnm=>(findIn K (.ref (clsAt K c)) (S' nm)).any (noGet K)&&(takerIn K (clsAt K c) (S' nm)).any Option.isNone) &&
 (isBi (findIn K (.ref (clsAt K c)) "__setattr__") "object.__setattr__" && plainOver K (clsAt K c))))))
noncomputable def seqD:Data→Option (Array Value):=@λy_1=>match @y_1 with
 |.seq vs x_1=>some vs
 |x_1=>none
theorem seqD_s {d:Data}{vs:Array Value}(h:seqD d=some vs):∃ n,d=.seq vs n:=by
 cases d with
 |seq us n=>exact⟨n,congrArg (λv=>Data.seq v n) (Option.some.inj h)⟩
 |_=>exact none_some h
noncomputable def bare (o:Obj) (t:String):Bool:=(tyV o.cls).any (· == t)&&(o.dict.isNone&&o.slots.isEmpty)
theorem bare_s {o:Obj}{t:String}(h:bare o t=true):o=⟨.type t,none,o.data,#[]⟩:=by
 obtain⟨c,d,x,sl⟩:=o
 obtain⟨h1,h⟩:=and2 h
 obtain⟨h2,h3⟩:=and2 h
 obtain⟨m,e,q⟩:=any_s h1
 obtain rfl:=tyV_s e
 obtain rfl:=eq_of_beq q
 obtain rfl:=Option.isNone_iff_eq_none.mp h2
 obtain rfl:=Array.isEmpty_iff.mp h3
 rfl
noncomputable def tupL (o:Obj) (us:Array Value):Option (List Value):=match bare o "tuple" && decide (us.size≤1000) with
 |true=>some us.toList
 |false=>none
noncomputable def tupO (o:Obj):Option (List Value):=(seqD o.data).bind (tupL o)
noncomputable def tupOf (o:Option Obj):Option (List Value):=o.bind tupO
noncomputable def intV:Value→Option Int:=@λy_1=>match @y_1 with
 |.int i x_1=>some i
 |x_1=>none
noncomputable def intsIn:List AV→List Value→Bool:=@λy_1=>@λy_2=>match @y_1,@y_2 with
 |[],[]=>true
 |x::xs,v::vs=>(match intV v with|some i=>intOf x==some i|none=>false)&&intsIn xs vs
 |x_1,x_2=>false
noncomputable def valIn (K:Frag) (v:Value):AV→Bool:=@λy_1=>match @y_1 with
 |.int i=>intV v==some i
 |.tup xs=>match (refV v).bind λa=>tupOf (K.lookup a) with
  |some vs=>intsIn xs vs
  |none=>false
 |x_1=>false
noncomputable def globChk (K:Frag) (k:Nat):Bool:=(got (nsIn K mainGlobals (S' (globN k)))).any λv=>valIn K v (globV k)
noncomputable def biChk (K:Frag) (x:String):Bool:=(nsIn K mainGlobals (S' x)).any Option.isNone
structure KFact (B:Nat→List Stmt)(K:Frag)(P:Params):Prop where
 fns:∀ f,f < 46→fnsChk B K f=true
 fnb:∀ f,f < 46→bodyAt K (fnAddr K f)=made B f
 ini:∀ c,c < 3→iniChk B K c=true
 inb:∀ c,c < 3→bodyAt K (iniAddr K c)=made B (46+c)
 cls:∀ c,c < 3→clsChk K c=true
 glob:∀ k,globChk K k=true
 bi:∀ x v,(x,v)∈biTab→biChk K x=true
 dict:∀ k,∃ a es n,atK K (dictN k)=some a∧(a==sysModules)=false∧K.lookup a=some ⟨.type "dict",none,.dict es n,#[]⟩∧KeysLit P es.toList∧KeysAre (dictK k) es.toList
theorem boot_bi:∀ x v,(x,v)∈biTab→bootBuiltins (S' x)=some v∧S' x≠"__name__":=by
 intro x v h
 have h1:biTab.map (λp=>bootBuiltins (S' p.1))=biTab.map (λp=>some p.2):=by kernel_rfl
 have h2:biTab.all (λp=>!(S' p.1==("__name__" : Str)))=true:=by kernel_rfl
 have q:=List.all_eq_true.mp h2 _ h
 exact⟨List.map_inj_left.mp h1 _ h,λe=>by rw[show S' x=_ from e] at q;exact (Bool.false_ne_true q).elim⟩
section
variable {prog:Program}{w:World}{h0:Heap}{K:Frag}{mg mb:Str→Option Value}
noncomputable def mkG (prog:Program) (w:World) (h0:Heap) (K:Frag) (mg mb:Str→Option Value):Glo:=⟨prog,w,h0,clsAt K,K,mg,mb⟩
theorem fnOne_s {B:Nat→List Stmt}{G:Glo}{f:Nat}{fa:Addr}{d:FnDef}{o:Obj}{fd:FuncData}{vs:List Str}(X:K.In G.h0)(ht:tabP f=some d)(ho:G.h0.get? fa=some o)(hd:o.data=.func fd)(hb:fd.body=.stmts (concB vs d.body (B f)))(h:fnOne B K f vs d fd=true):FnOk G f fa d vs o fd (B f) fd.params.args:=
 have h1:=and2 h
 have h2:=and2 h1.2
 have h3:=and2 h2.2
 have h4:=and2 h3.2
 have h5:=and2 h4.2
 have h6:=and2 h5.2
 have h7:=and2 h6.2
 have h8:=and2 h7.2
 have h9:=and2 h8.2
 have h10:=and2 h9.2
 have h11:=and2 h10.2
 have h12:=and2 h11.2
 have h13:=and2 h12.2
 ⟨ht,ho,hd,hb,codeRec_of X h2.1,List.isEmpty_iff.mp h3.1,of_decide_eq_true h4.1,of_decide_eq_true h5.1,isFunK_s h6.1,nt h7.1,nt h8.1,h1.1,nodupB_s h9.1,parOk_s h10.1,eq_of_beq h11.1,of_decide_eq_true h12.1,
  λx hx=>(Bool.or_eq_true_iff.mp (List.all_eq_true.mp h13.1 x hx)).imp (λe=>eq_of_beq e) λe=>eq_of_beq e,isNoneV_s h13.2⟩
theorem fnChk_s (X:K.In h0){B:Nat→List Stmt}{f:Nat}{fa:Addr}(hb:bodyAt K fa=made B f)(h:fnChk B K f fa=true):FnAt (mkG prog w h0 K mg mb) f fa:=by
 obtain⟨d,ht,h⟩:=any_s h
 obtain⟨fd,hf,h⟩:=any_s h
 unfold bodyAt made irOf at hb
 rw[hf,ht] at hb
 obtain⟨o,ho,hd⟩:=bind_s hf
 exact⟨d,_,o,fd,B f,_,fnOne_s (G:=mkG prog w h0 K mg mb) X ht (X _ _ ho) (funD_s hd) (bodyD_s hb) h⟩
theorem strOfV_s {v:Value}{s:Str}(h:strOfV v=some s):∃ t,v=.str s t:=by
 cases v with
 |str s t=>exact⟨t,congrArg (λs=>Value.str s t) (Option.some.inj h)⟩
 |_=>exact none_some h
theorem isStr_find {x:Str}:∀ {l:List DictEntry}{ks:List String},KeysAre ks l→∀ s:String,(l.find? (λd=>Value.isStrOf (S' s) d.key)).isSome=ks.contains s:=@λy_1=>@λy_2=>@λy_3=>@λy_4=>match @y_1,@y_2,@y_3,@y_4 with
 |[],[],x_1,s=>rfl
 |[],k::ks,h,x_1=>nomatch (h:[]=_::_)
 |e::l,[],h,x_1=>nomatch (h:_::_=[])
 |e::l,k::ks,h,s=>by
  have h1:strOfV e.key=some (S' k):=(List.cons.inj h).1
  have h2:KeysAre ks l:=(List.cons.inj h).2
  (refine rwI (List.find?_cons) ?_;refine rwI List.contains_cons ?_)
  have:Value.isStrOf (S' s) e.key=(s==k):=by
   obtain⟨t,ht⟩:=strOfV_s h1
   refine rwI ht ?_
   show (_==_)=_
   first|(refine rwI (S'_beq ..) ?_;refine rwI Bool.beq_comm ?_;rfl)|rw[S'_beq]
  refine rwI this ?_
  cases s==k with
  |true=>rfl
  |false=>exact isStr_find (x:=x) (l:=l) (ks:=ks) h2 s
theorem intV_s {v:Value}{i:Int}(h:intV v=some i):∃ t,v=.int i t:=by
 cases v with
 |int j t=>obtain rfl:=Option.some.inj h;exact⟨t,rfl⟩
 |_=>exact none_some h
theorem intsIn_s {G:Glo}{F:Nat→Prop}:∀ {xs:List AV}{vs:List Value},intsIn xs vs=true→VRels G F h0 xs vs:=@λy_1=>@λy_2=>@λy_3=>match @y_1,@y_2,@y_3 with
 |[],[],x_1=>.nil
 |[],x_1::x_2,h=>(Bool.false_ne_true h).elim
 |x_1::x_2,[],h=>(Bool.false_ne_true h).elim
 |x::xs,v::vs,h=>by
  replace h:=Bool.and_eq_true_iff.mp h
  obtain⟨h1,h2⟩:=h
  refine .cons ?_ (intsIn_s h2)
  refine ocase (o:=intV v) (λe=>?_) λi e=>?_
  ·rw[e] at h1;exact (Bool.false_ne_true h1).elim
  ·
   rw[e] at h1
   obtain⟨t,rfl⟩:=intV_s e
   refine rwI (intOf_s (eq_of_beq h1)) ?_
   exact .int i t
theorem tupOf_s {o:Option Obj}{vs:List Value}(h:tupOf o=some vs):∃ n,o=some ⟨.type "tuple",none,.seq vs.toArray n,#[]⟩∧vs.length≤1000:=by
 obtain⟨o,rfl,h⟩:=bind_s (f:=tupO) h
 obtain⟨us,hs,h⟩:=bind_s (f:=tupL o) h
 unfold tupL at h
 cases e:bare o "tuple" && decide (us.size≤1000) with
 |false=>rw[e] at h;exact none_some h
 |true=>
  rw[e] at h
  obtain rfl:=Option.some.inj h
  obtain⟨n,hd⟩:=seqD_s hs
  exact⟨n,congrArg some ((bare_s (and2 e).1).trans (by (refine rwI hd ?_;rfl))),of_decide_eq_true (and2 e).2⟩
theorem valIn_s (X:K.In h0){x:AV}{v:Value}(h:valIn K v x=true):VRel (mkG prog w h0 K mg mb) (λa=>∃ o,h0.get? a=some o) h0 x v:=by
 cases x with
 |int i=>obtain⟨t,rfl⟩:=intV_s (eq_of_beq h);exact .int i t
 |tup xs=>
  replace h:(match (refV v).bind λa=>tupOf (K.lookup a) with|some vs=>intsIn xs vs|none=>false)=true:=h
  cases v with
  |ref a=>
   replace h:(match tupOf (K.lookup a) with|some vs=>intsIn xs vs|none=>false)=true:=h
   refine ocase (o:=tupOf (K.lookup a)) (λe=>?_) λvs e=>?_
   ·rw[e] at h;exact (Bool.false_ne_true h).elim
   ·
    rw[e] at h
    obtain⟨n,e,hl⟩:=tupOf_s e
    have e':=X _ _ e
    exact .tup ⟨_,e'⟩ e' (Nat.le_trans hl (by decide)) (intsIn_s h)
  |_=>exact (Bool.false_ne_true h).elim
 |_=>exact (Bool.false_ne_true h).elim
end
theorem nope_s {α:Type}{o:Option (Option α)}(h:o.any Option.isNone=true):o=some none:=by
 obtain⟨x,e,q⟩:=any_s h
 (refine rwI e ?_;refine rwI (Option.isNone_iff_eq_none.mp q) ?_;rfl)
theorem cls_lt:∀ {c:Nat}{nm:String},nm∈flds c→c < 3:=@λy_1=>@λy_2=>@λy_3=>match @y_1,@y_2,@y_3 with
 |0,x_1,x_2=>by decide
 |1,x_1,x_2=>by decide
 |2,x_1,x_2=>by decide
 |x_1+3,x_2,h=>nomatch h
theorem gok_of {B:Nat→List Stmt}{prog p:Program}{loose:List Str}{w:World}{h0:Heap}{K:Frag}{mg mb:Str→Option Value}(X:K.In h0)(T:TopRead p loose mg mb h0)(f:KFact B K w.params) :
  GOk (mkG prog w h0 K mg mb)∧GFn (mkG prog w h0 K mg mb):=by
 have ml:∀ {x v},nsIn K mainGlobals x=some (some v)→mg x=some v:=λe=>mg_of X T.g e
 have c1:=λc hc=>and2 (f.cls c hc)
 have c2:=λc hc=>and2 (c1 c hc).2
 have c3:=λc hc=>and2 (c2 c hc).2
 have c4:=λc hc=>and2 (c3 c hc).2
 have c5:=λc hc=>and2 (c4 c hc).2
 have c6:=λc hc=>and2 (c5 c hc).2
 have fld:∀ (c k:Nat) (nm:String),(flds c)[k]? = some nm→(∃ at',findIn K (.ref (clsAt K c)) (S' nm)=some at'∧noGet K at'=true)∧takerIn K (clsAt K c) (S' nm)=some none:=λc k nm h=>
  have hm:=List.mem_of_getElem? h
  have q:=and2 (List.all_eq_true.mp (c5 c (cls_lt hm)).1 nm hm)
  ⟨any_s q.1,nope_s q.2⟩
 refine⟨⟨X,T.g,T.b,T.nolimit,λk=>?_,λk=>?_,λx v hx=>?_,λc hc=>isBi_s (c3 c hc).1,λc hc=>(c4 c hc).1,λc k nm h=>(fld c k nm h).1,λi hi=>?_,λc hc=>⟨ml (atK_s ?_),(c2 c hc).1⟩,λc hc=>isBi_s (c6 c hc).1,λc hc=>(c6 c hc).2,λc k nm h=>(fld c k nm h).2⟩,λi fa hi hm=>?_,λc hc=>?_⟩
 ·obtain⟨v,e,h⟩:=any_s (f.glob k)
  exact⟨v,ml (got_s e),valIn_s X h⟩
 ·obtain⟨a,es,n,h1,h2,h3,h4,h5⟩:=f.dict k
  refine⟨a,_,ml (atK_s h1),h2,mapOf_K (prog:=prog) (w:=w) X h3 h4,λs=>?_⟩
  unfold findBy
  refine rwI Option.isSome_map ?_
  obtain⟨l⟩:=es
  refine rwI (List.find?_toArray ..) ?_
  exact isStr_find (x:=S' s) h5 s
 ·have b:=boot_bi x v hx
  exact⟨mg_none_of X T.g (nope_s (f.bi x v hx)),(T.builtins _ b.2).trans b.1⟩
 ·obtain⟨fa,e,h⟩:=any_s (f.fns i hi)
  exact⟨fa,ml (atK_s e),(and2 h).1⟩
 ·obtain⟨a,ha⟩:=Option.isSome_iff_exists.mp (c1 c hc).1
  refine rwI ha ?_
  exact congrArg some (by refine (?_:a=(atK K (clsN c)).getD 0);refine rwI ha ?_;rfl)
 ·obtain⟨fa',e,h⟩:=any_s (f.fns i hi)
  have hb:=f.fnb i hi
  unfold fnAddr at hb;rw[e] at hb
  have e:(some (Value.ref fa'))=some (.ref fa):=(ml (atK_s e)).symm.trans hm
  cases e
  exact fnChk_s X hb (and2 h).2
 ·have h:=and2 (f.ini c hc)
  obtain⟨fI,e,h2⟩:=any_s h.2
  obtain⟨t,et,q⟩:=any_s (and2 h2).1
  obtain⟨v,ev,q2⟩:=bind_s et
  obtain⟨u,eu,q3⟩:=bind_s e
  have hb:=f.inb c hc
  unfold iniAddr at hb;rw[e] at hb
  exact⟨h.1,fI,(got_s eu).trans (by (refine rwI (refV_s q3) ?_;rfl)),ev.trans (by (refine rwI (tyV_s q2) ?_;refine rwI (eq_of_beq q) ?_;rfl)),fnChk_s X hb (and2 h2).2⟩
noncomputable def dicD:Data→Option (Array DictEntry):=@λy_1=>match @y_1 with
 |.dict es x_1=>some es
 |x_1=>none
theorem dicD_s {d:Data}{es:Array DictEntry}(h:dicD d=some es):∃ n,d=.dict es n:=by
 cases d with
 |dict us n=>exact⟨n,congrArg (λv=>Data.dict v n) (Option.some.inj h)⟩
 |_=>exact none_some h
noncomputable def dOf (o:Option Obj):Array DictEntry:=(o.bind λo=>dicD o.data).getD #[]
noncomputable def dHash (K:Frag) (k:Nat):List Int:=(dOf (K.lookup ((atK K (dictN k)).getD 0))).toList.map (·.hash)
noncomputable def dOne (k:Nat) (o:Obj):Bool:=bare o "dict" && (dicD o.data).any λes=>es.toList.map (λe=>strOfV e.key)==(dictK k).map λn=>some (S' n)
noncomputable def dChk (K:Frag) (k:Nat):Bool:=(atK K (dictN k)).any λa=>!(a==sysModules)&&(K.lookup a).any (dOne k)
theorem keysLit_of {P:Params}:∀ {es:List DictEntry}{ks:List String},KeysAre ks es→es.map (·.hash)=ks.map (λn=>PyData.keyHash P (S' n))→KeysLit P es:=@λy_1=>@λy_2=>@λy_3=>@λy_4=>match @y_1,@y_2,@y_3,@y_4 with
 |[],x_1,x_2,x_3=>trivial
 |e::es,[],h,x_1=>nomatch (h:_::_=[])
 |e::es,k::ks,h,g=>by
  obtain⟨t,ht⟩:=strOfV_s (List.cons.inj h).1
  exact⟨⟨_,t,ht,(List.cons.inj g).1⟩,keysLit_of (ks:=ks) (List.cons.inj h).2 (List.cons.inj g).2⟩
theorem kfact_of {B:Nat→List Stmt}{K:Frag}{P:Params}(h1:(List.range 46).all (fnsChk B K)=true)(h2:(List.range 3).all (λc=>iniChk B K c&&clsChk K c)=true)(h3:(List.range 5).all (globChk K)=true)
  (h4:biTab.all (λp=>biChk K p.1)=true) (h5:(List.range 7).all (dChk K)=true) (h6:(List.range 7).map (dHash K)=(List.range 7).map λk=>(dictK k).map λn=>PyData.keyHash P (S' n))
  (h7:(List.range 46).map (λf=>bodyAt K (fnAddr K f))=(List.range 46).map (made B)) (h8:(List.range 3).map (λc=>bodyAt K (iniAddr K c))=(List.range 3).map λc=>made B (46+c)):KFact B K P:=by
 have a1:=List.all_eq_true.mp h1
 have a2:=List.all_eq_true.mp h2
 have a3:=List.all_eq_true.mp h3
 have a4:=List.all_eq_true.mp h4
 have a5:=List.all_eq_true.mp h5
 have mr:∀ {n k:Nat},k < n→k∈List.range n:=λh=>List.mem_range.mpr h
 have g6:∀ k,k < 7→dHash K k=(dictK k).map λn=>PyData.keyHash P (S' n):=λk hk=>by
  have:=congrArg (λl=>l[k]?) h6
  simpa[hk] using this
 have d7:∀ k,k < 7→∃ a es n,atK K (dictN k)=some a∧(a==sysModules)=false∧K.lookup a=some ⟨.type "dict",none,.dict es n,#[]⟩∧KeysLit P es.toList∧KeysAre (dictK k) es.toList:=λk hk=>by
  have h:=a5 k (mr hk)
  have g:=g6 k hk
  obtain⟨a,ha,h⟩:=any_s h
  obtain⟨o,ho,h1⟩:=any_s (and2 h).2
  obtain⟨es,he,q⟩:=any_s (and2 h1).2
  obtain⟨n,hd⟩:=dicD_s he
  have g:(dOf (K.lookup ((atK K (dictN k)).getD 0))).toList.map (·.hash)=_:=g
  rw[ha,show K.lookup ((some a).getD 0)=some o from ho] at g
  replace g:((dicD o.data).getD #[]).toList.map (·.hash)=_:=g
  rw[he] at g
  exact⟨a,es,n,ha,nt (and2 h).1,ho.trans (congrArg some ((bare_s (and2 h1).1).trans (by (refine rwI hd ?_;rfl)))),keysLit_of (eq_of_beq q) g,eq_of_beq q⟩
 refine⟨λf hf=>a1 f (mr hf),λf hf=>List.map_inj_left.mp h7 f (mr hf),λc hc=>?_,λc hc=>List.map_inj_left.mp h8 c (mr hc),λc hc=>?_,λk=>?_,λx v hx=>a4 _ hx,λk=>?_⟩
 ·have:=a2 c (mr hc);rw[Bool.and_eq_true] at this;exact this.1
 ·have:=a2 c (mr hc);rw[Bool.and_eq_true] at this;exact this.2
 ·by_cases hk:k < 5
  ·exact a3 k (mr hk)
  ·have h4:=a3 4 (mr (by decide))
   obtain⟨j,rfl⟩:∃ j,k=j+5:=⟨k - 5,(Nat.sub_add_cancel (Nat.le_of_not_lt hk)).symm⟩
   exact h4
 ·by_cases hk:k < 7
  ·exact d7 k hk
  ·obtain⟨j,rfl⟩:∃ j,k=j+7:=⟨k - 7,(Nat.sub_add_cancel (Nat.le_of_not_lt hk)).symm⟩
   exact d7 6 (by decide)
noncomputable def Spec:Prop:=∀ ws:List Int,ws.length≤63→Cn tabP 40 45 [.lst (ws.map .int)] (λx_=>none) λv x_=>v=.bool true
theorem well_ints {G:Glo}{F:Nat→Prop}{P:Params}{h:Heap}{ws:List Int}:∀ {vs:List Value},WellAll P h vs (ofPys (ws.map .int))→VRels G F h (ws.map .int) vs:=by
 induction ws with
 |nil=>intro vs r;cases r;exact .nil
 |cons i ws ih=>
  intro vs r
  have r:WellAll P h vs (WData.int i::ofPys (ws.map .int)):=r
  cases r with
  |cons w r'=>cases w with|int _ t=>exact .cons (.int i t) (ih r')
theorem well_list {G:Glo}{F:Nat→Prop}{P:Params}{h:Heap}{l:Addr}{ws:List Int}(hw:Well P h (.ref l) (ofPy (.list (ws.map .int))))(hF:F l)(hn:ws.length≤63):VRel G F h (.lst (ws.map .int)) (.ref l):=by
 have hw:Well P h (.ref l) (.list (ofPys (ws.map .int))):=hw
 cases hw with
 |list g r=>
  have rs:=well_ints (G:=G) (F:=F) r
  have:=rs.length
  rw[List.length_map] at this
  exact .lst hF g (by lia) rs
theorem join {prog:Program}{w:World}{K:Frag}{mg mb:Str→Option Value}{s:Shared}(S:Spec)(gg:GOk (mkG prog w s.heap K mg mb)∧GFn (mkG prog w s.heap K mg mb)){fa l:Addr}{ws:List Int}{P:Params}
  (hm:mg (S' "law")=some (.ref fa)) (hw:Well P s.heap (.ref l) (ofPy (.list (ws.map .int)))) (hn:ws.length≤63) {R:Result→Shared→Prop}
  (hR:∀ s',(∀ b o,s.heap.get? b=some o→s'.heap.get? b=some o)→s'.gens=s.gens→s'.os=s.os→R (.ok (.ret (.bool true))) s') :
  codeAny (model prog w) callerA (.call (.ref fa) ⟨[.ref l],[]⟩) R s:=by
 obtain⟨gk,gf⟩:=gg
 obtain⟨d,vs,o,fd,body,ps,fo⟩:=gf.fns 45 fa (by decide) hm
 have sp:=S ws hn
 obtain⟨d',hd,hc⟩:=Cn_succ sp
 have he:d'=d:=by have:=fo.tab;rw[hd] at this;cases this;rfl
 subst he
 have iv:Inv (mkG prog w s.heap K mg mb) No (λx_=>none) s.heap:=⟨λx_ x_ e=>by (exact none_some e),λb o e=>⟨e,rfl,id⟩,λx_ e=>e.elim,λx_ x_ e=>by (exact none_some e)⟩
 refine fn_call gk (ors gk gf 39) fo (A:=callerA) (X:=No) (s:=s) (H:=λx_=>none) (by decide) (λenv=>⟨rfl,by refine (?_:1+300+1+2 * 39≤900);decide,by refine (?_:4+3+6 * 39≤9000);decide⟩) iv (.cons (well_list hw ⟨rfl,id⟩ hn) .nil) hc λv s' pz8=>?_
 obtain⟨x,H',hx,st,r⟩:=pz8
 subst hx
 cases r
 exact hR s' (λb o e=>(st.steps b o e rfl id).1) st.same.1 st.same.2
end Mine.Internal
namespace Mine.Internal
open PySem
set_option genCtorIdx true in
inductive Opd where|r (n:Int)|k (n:Int)
deriving DecidableEq
set_option genCtorIdx true in
inductive Bop where|add|xor|mul|divu|ltu|shr
deriving DecidableEq
inductive Row where
 |store (a b:Opd) (w:Int) (firm:Bool)
 |load (d:Int) (a:Opd) (w:Int) (sx firm:Bool)
 |copy (d:Int) (a:Opd)
 |bin (o:Bop) (d:Int) (a b:Opd)
 |slot (d s:Int)
 |name (d:Int)
 |move (a b:Opd) (firm:Bool)
 |call (d:Int) (a:Opd) (poke:Bool)
@[reducible] noncomputable def Row.ctorIdx (x:Row):Nat:=@Row.casesOn (λx_=>Nat) x (λx_ x_ x_ x_=>0) (λx_ x_ x_ x_ x_=>1) (λx_ x_=>2) (λx_ x_ x_ x_=>3) (λx_ x_=>4) (λx_=>5) (λx_ x_ x_=>6) (λx_ x_ x_=>7)
inductive End where
 |jump (t:Int)|branch (r a b:Int)|give (r:Int)
@[reducible] noncomputable def End.ctorIdx (x:End):Nat:=@End.casesOn (λx_=>Nat) x (λx_=>0) (λx_ x_ x_=>1) (λx_=>2)
theorem opd_r {a b:Int}:(Opd.r a=Opd.r b)=(a=b):=propext ⟨λh=>by cases h;rfl,λh=>h ▸ rfl⟩
theorem band2 {a b:Bool}(h:(a&&b)=true):a=true∧b=true:=Bool.and_eq_true_iff.mp h
theorem mem1 {α:Type}{a b:α}(h:a∈[b]):a=b:=List.mem_singleton.mp h
theorem consA {α:Type}{P:α→Prop}{a:α}{l:List α}(h:P a)(t:∀ x∈l,P x):∀ x∈a::l,P x:=λx hx=>(List.mem_cons.mp hx).elim (λe=>e ▸ h) (t x)
theorem all1 {α:Type}{P:α→Prop}{a o:α}(h:o∈[a])(ha:P a):P o:=mem1 h ▸ ha
theorem all2 {α:Type}{P:α→Prop}{a b o:α}(h:o∈[a,b])(ha:P a)(hb:P b):P o:=(List.mem_cons.mp h).elim (λe=>e ▸ ha) λh=>mem1 h ▸ hb
theorem opd_i {a b:Int}(h:Opd.r a=.r b):a=b:=opd_r ▸ h
theorem rm1 {x a:Int}(h:Opd.r x∈[Opd.r a]):x=a:=opd_i (mem1 h)
noncomputable def opdV:Opd→AV:=@λy_1=>match @y_1 with
 |.r n=>.tup [.str "r",.int n]
 |.k n=>.tup [.str "k",.int n]
noncomputable def Bop.name:Bop→String:=@λy_1=>match @y_1 with
 |.add=>"add" | .xor=>"xor" | .mul=>"mul" | .divu=>"divu" | .ltu=>"ltu" | .shr=>"shr"
namespace Row
noncomputable def op:Row→String:=@λy_1=>match @y_1 with
 |store ..=>"store" | load ..=>"load" | copy ..=>"copy" | bin o ..=>o.name|slot ..=>"slot" | name ..=>"name" | move ..=>"move" | call ..=>"call"
noncomputable def dst:Row→Int:=@λy_1=>match @y_1 with
 |store ..=>-1|load d ..=>d|copy d ..=>d|bin _ d ..=>d|slot d _=>d|name d=>d|move ..=>-1|call d ..=>d
noncomputable def args:Row→List Opd:=@λy_1=>match @y_1 with
 |store a b ..=>[a,b]|load _ a ..=>[a]|copy _ a=>[a]|bin _ _ a b=>[a,b]|slot ..=>[]|name _=>[]|move a b _=>[a,b]|call _ a _=>[a]
noncomputable def firm:Row→Bool:=@λy_1=>match @y_1 with
 |store x_1 x_2 x_3 f=>f|load _ _ _ _ f=>f|move _ _ f=>f|_=>false
noncomputable def more:Row→AV:=@λy_1=>match @y_1 with
 |store x_1 x_2 w x_3=>.int w|load _ _ w s _=>.tup [.int w,.bool s]|copy ..=>.int 0|bin ..=>.int 0|slot _ s=>.int s
 |name x_1=>.tup [.str "g",.int 0]|move ..=>.tup [.int 4,.int 4]|call _ _ p=>.str (match p with|true=>"poke" | false=>"see")
noncomputable def drop:Row→Row:=@λy_1=>match @y_1 with
 |call x_1 a p=>call (-1) a p|r=>r
end Row
namespace End
noncomputable def op:End→String:=@λy_1=>match @y_1 with
 |jump x_1=>"jump" | branch ..=>"branch" | give _=>"give"
noncomputable def args:End→List Opd:=@λy_1=>match @y_1 with
 |jump x_1=>[]|branch r ..=>[.r r]|give r=>[.r r]
noncomputable def more:End→AV:=@λy_1=>match @y_1 with
 |jump t=>.int t|branch _ a b=>.tup [.int a,.int b]|give _=>.int 0
noncomputable def succ:End→List Int:=@λy_1=>match @y_1 with
 |jump t=>[t]|branch _ a b=>[a,b]|give _=>[]
end End
noncomputable def argsV (l:List Opd):AV:=.lst (l.map opdV)
noncomputable def stepV (a:Nat) (r:Row):AV:=.obj a 0 [.str r.op,.int r.dst,argsV r.args,r.more,.bool r.firm,.int 0]
noncomputable def stepsV (l:List (Nat×Row)):List AV:=l.map λp=>stepV p.1 p.2
noncomputable def rowV (r:Row):AV:=.tup [.str r.op,.int r.dst,argsV r.args,r.more,.bool r.firm]
noncomputable def endV (e:Nat) (x:End):AV:=.obj e 0 [.str x.op,.int (-1),argsV x.args,x.more,.bool false,.int 0]
noncomputable def endR (x:End):AV:=.tup [.str x.op,argsV x.args,x.more]
noncomputable def slotsV:AV:=.lst [.tup [.int 8,.int 4],.tup [.int 4,.int 4],.tup [.int 4,.int 4],.tup [.int 2,.int 2]]
noncomputable def paramsV:AV:=.lst [.int 0,.int 1,.int 7,.int 8,.int 9,.int 10]
structure Lay where
 f:Nat
 b:Int→Nat
 d:Int→Nat
 e:Int→Nat
noncomputable def blksV (ly:Lay):AV:=.lst [.ref (ly.b 0),.ref (ly.b 1),.ref (ly.b 2),.ref (ly.b 3)]
noncomputable def bodyV (ly:Lay):AV:=.obj ly.f 2 [.str "drawn",paramsV,.bool false,slotsV,blksV ly,.int 21,.bool true]
abbrev Prg:=Int→List (Nat×Row)
abbrev Ens:=Int→End
noncomputable def BodyAt (H:AHeap) (ly:Lay) (P:Prg) (E:Ens):Prop:=∀ i,0≤i→i < 4 →
 H (ly.b i)=some (.inst 1 (ly.d i))∧H (ly.d i)=some (.ns 1 [.int i,.lst (stepsV (P i)),endV (ly.e i) (E i)])
section
variable {H:AHeap}
theorem cat_lst {xs ys:List AV}(h:xs.length+ys.length≤100000):opBin .add (.lst xs) (.lst ys)=some (.lst (xs++ys)):=if_pos (decide_eq_true h)
theorem atIx_nat {xs:List AV}{p:Nat}{v:AV}(h:xs[p]? = some v):atIx xs (p:Int)=some v:=(if_pos (Int.natCast_nonneg p)).trans h
theorem ref_attr {c b d:Nat}{fs:List AV}(k:Nat)(hb:H b=some (.inst c d))(hd:H d=some (.ns c fs)):attrOf H c k (.ref b)=fs[k]?:=by
 refine (show attrOf H c k (.ref b)=nsO c k c (H d) from congrArg (instO H c k) hb).trans ((congrArg (nsO c k c) hd).trans ?_)
 refine (?_:(if c=c∧c=c then fs[k]? else none)=fs[k]?)
 exact if_pos ⟨rfl,rfl⟩
theorem bodyV_slots {ly}:attrOf H 2 3 (bodyV ly)=some slotsV:=rfl
theorem blk_attr {b d:Nat}{fs:List AV}(k:Nat)(hb:H b=some (.inst 1 d))(hd:H d=some (.ns 1 fs)):attrOf H 1 k (.ref b)=fs[k]?:=
 (show attrOf H 1 k (.ref b)=nsO 1 k 1 (H d) from congrArg (instO H 1 k) hb).trans (congrArg (nsO 1 k 1) hd)
end
theorem enter {n f:Nat}{d:FnDef}{args:List AV}{H:AHeap}{Q:AV→AHeap→Prop}(hd:tabP f=some d)(hl:args.length=d.np)
  (h:wB (Cn tabP n) d.body (args.map some++emptyEnv (d.nv - d.np)) H λf x_ H'=>Q (retOf f) H'):Cn tabP (n+1) f args H Q:=by
 (rewrite [Cn];refine rwI (CnG_succ ..) ?_);exact ok_mk hd ⟨hl,h⟩
theorem lstOf_list {H:AHeap}{a:Nat}{xs:List AV}(h:H a=some (.list xs)):lstOf H (.ref a)=some (xs,some a):=congrArg (lstO a) h
theorem getIx_list {H:AHeap}{a:Nat}{xs:List AV}(i:Int)(h:H a=some (.list xs)):getIx H (.ref a) (.int i)=atIx xs i:=congrArg (getIxO i) h
theorem setOfV_set {H:AHeap}{a:Nat}{m:Int→Bool}(h:H a=some (.set m)):setOfV H (.ref a)=some m:=congrArg setO h
theorem asSet_set {H:AHeap}{a:Nat}{m:Int→Bool}(h:H a=some (.set m)):asSet H (.ref a)=some m:=congrArg setO h
theorem lenOf_list {H:AHeap}{a:Nat}{xs:List AV}(h:H a=some (.list xs)):lenOf H (.ref a)=some (xs.length:Int):=congrArg lenO h
theorem truth_list {H:AHeap}{a:Nat}{xs:List AV}(h:H a=some (.list xs)):truth H (.ref a)=some (!xs.isEmpty):=congrArg truthO h
theorem truth_dict {H:AHeap}{a:Nat}{es:List (Int×AV)}(h:H a=some (.dict es)):truth H (.ref a)=some (!es.isEmpty):=congrArg truthO h
section
variable {H:AHeap}
theorem opEq_str (a b:String):opCm H .eq (.str a) (.str b)=some (a==b):=rfl
end
inductive And3 (p1 p2 p3:Prop):Prop|mk:p1→p2→p3→And3 p1 p2 p3
inductive And4 (p1 p2 p3 p4:Prop):Prop|mk:p1→p2→p3→p4→And4 p1 p2 p3 p4
inductive And5 (p1 p2 p3 p4 p5:Prop):Prop|mk:p1→p2→p3→p4→p5→And5 p1 p2 p3 p4 p5
inductive And6 (p1 p2 p3 p4 p5 p6:Prop):Prop|mk:p1→p2→p3→p4→p5→p6→And6 p1 p2 p3 p4 p5 p6
inductive And7 (p1 p2 p3 p4 p5 p6 p7:Prop):Prop|mk:p1→p2→p3→p4→p5→p6→p7→And7 p1 p2 p3 p4 p5 p6 p7
inductive And8 (p1 p2 p3 p4 p5 p6 p7 p8:Prop):Prop|mk:p1→p2→p3→p4→p5→p6→p7→p8→And8 p1 p2 p3 p4 p5 p6 p7 p8
inductive And10 (p1 p2 p3 p4 p5 p6 p7 p8 p9 p10:Prop):Prop|mk:p1→p2→p3→p4→p5→p6→p7→p8→p9→p10→And10 p1 p2 p3 p4 p5 p6 p7 p8 p9 p10
inductive Ex2 {α1 α2:Type}(P:α1→α2→Prop):Prop|mk (x1:α1)(x2:α2):P x1 x2→Ex2 P
inductive Ex3 {α1 α2 α3:Type}(P:α1→α2→α3→Prop):Prop|mk (x1:α1)(x2:α2)(x3:α3):P x1 x2 x3→Ex3 P
inductive Ex4 {α1 α2 α3 α4:Type}(P:α1→α2→α3→α4→Prop):Prop|mk (x1:α1)(x2:α2)(x3:α3)(x4:α4):P x1 x2 x3 x4→Ex4 P
inductive Ex5 {α1 α2 α3 α4 α5:Type}(P:α1→α2→α3→α4→α5→Prop):Prop|mk (x1:α1)(x2:α2)(x3:α3)(x4:α4)(x5:α5):P x1 x2 x3 x4 x5→Ex5 P
inductive Ex6 {α1 α2 α3 α4 α5 α6:Type}(P:α1→α2→α3→α4→α5→α6→Prop):Prop|mk (x1:α1)(x2:α2)(x3:α3)(x4:α4)(x5:α5)(x6:α6):P x1 x2 x3 x4 x5 x6→Ex6 P
inductive Ex7 {α1 α2 α3 α4 α5 α6 α7:Type}(P:α1→α2→α3→α4→α5→α6→α7→Prop):Prop|mk (x1:α1)(x2:α2)(x3:α3)(x4:α4)(x5:α5)(x6:α6)(x7:α7):P x1 x2 x3 x4 x5 x6 x7→Ex7 P
inductive Ex8 {α1 α2 α3 α4 α5 α6 α7 α8:Type}(P:α1→α2→α3→α4→α5→α6→α7→α8→Prop):Prop|mk (x1:α1)(x2:α2)(x3:α3)(x4:α4)(x5:α5)(x6:α6)(x7:α7)(x8:α8):P x1 x2 x3 x4 x5 x6 x7 x8→Ex8 P
inductive Ex9 {α1 α2 α3 α4 α5 α6 α7 α8 α9:Type}(P:α1→α2→α3→α4→α5→α6→α7→α8→α9→Prop):Prop|mk (x1:α1)(x2:α2)(x3:α3)(x4:α4)(x5:α5)(x6:α6)(x7:α7)(x8:α8)(x9:α9):P x1 x2 x3 x4 x5 x6 x7 x8 x9→Ex9 P
inductive Ex10 {α1 α2 α3 α4 α5 α6 α7 α8 α9 α10:Type}(P:α1→α2→α3→α4→α5→α6→α7→α8→α9→α10→Prop):Prop|mk (x1:α1)(x2:α2)(x3:α3)(x4:α4)(x5:α5)(x6:α6)(x7:α7)(x8:α8)(x9:α9)(x10:α10):P x1 x2 x3 x4 x5 x6 x7 x8 x9 x10→Ex10 P
inductive Ex11 {α1 α2 α3 α4 α5 α6 α7 α8 α9 α10 α11:Type}(P:α1→α2→α3→α4→α5→α6→α7→α8→α9→α10→α11→Prop):Prop|mk (x1:α1)(x2:α2)(x3:α3)(x4:α4)(x5:α5)(x6:α6)(x7:α7)(x8:α8)(x9:α9)(x10:α10)(x11:α11):P x1 x2 x3 x4 x5 x6 x7 x8 x9 x10 x11→Ex11 P
inductive Ex12 {α1 α2 α3 α4 α5 α6 α7 α8 α9 α10 α11 α12:Type}(P:α1→α2→α3→α4→α5→α6→α7→α8→α9→α10→α11→α12→Prop):Prop|mk (x1:α1)(x2:α2)(x3:α3)(x4:α4)(x5:α5)(x6:α6)(x7:α7)(x8:α8)(x9:α9)(x10:α10)(x11:α11)(x12:α12):P x1 x2 x3 x4 x5 x6 x7 x8 x9 x10 x11 x12→Ex12 P
noncomputable def stepF (C:Oracle) (t:Tg) (b:List S) (x:AV) (ρ:AEnv) (H:AHeap) (K:Fl→AEnv→AHeap→Prop):Prop:=ok (bindT H ρ t x) λρ'=>wB C b ρ' H K
noncomputable def stepC (C:Oracle) (elt:E) (t:Tg) (tests:List E) (ρ:AEnv) (x:AV) (H:AHeap) (K:Option AV→AHeap→Prop):Prop:=ok (bindT H ρ t x) λρ'=>
 wTs C tests ρ' H λb H=>match b with
  |true=>wE C elt ρ' H λy H=>K (some y) H
  |false=>K Option.none H
section
variable {C:Oracle}{s:S}{r:List S}{ρ:AEnv}{H:AHeap}{Q:Fl→AEnv→AHeap→Prop}{v:AV}
end
theorem yes {b:Bool}{p q:Prop}:b=true→p→(match b with|true=>p|false=>q):=by rintro rfl k;exact k
theorem no {b:Bool}{p q:Prop}:b=false→q→(match b with|true=>p|false=>q):=by rintro rfl k;exact k
section
variable {H:AHeap}{a:Nat}{Q:AV→AHeap→Prop}{Q':AHeap→Prop}
theorem add_i {m:Int→Bool}{i:Int}(h:H a=some (.set m))(h0:0≤i)(h1:i < 32)(k:Q .none (upd H a (.set λj=>m j||j==i))):isSe H (.ref a)∧opAdd H (.ref a) (.int i) Q:=⟨⟨a,m,rfl,h⟩,a,m,i,rfl,h,rfl,h0,h1,k⟩
theorem add_j {m:Int→Bool}{i:Int}(h:H a=some (.set m))(h0:0≤i)(h1:i < 32)(k:Q .none (upd H a (.set λj=>m j||j==i))):opAdd H (.ref a) (.int i) Q:=⟨a,m,i,rfl,h,rfl,h0,h1,k⟩
theorem disc_i {m:Int→Bool}{i:Int}(h:H a=some (.set m))(k:Q .none (upd H a (.set λj=>m j&&j != i))):isSe H (.ref a)∧opDiscard H (.ref a) (.int i) Q:=⟨⟨a,m,rfl,h⟩,a,m,i,rfl,h,rfl,k⟩
theorem app_i {xs:List AV}{x:AV}(h:H a=some (.list xs))(hl:xs.length≤100000)(k:Q .none (upd H a (.list (xs++[x])))):isLi H (.ref a)∧opAppend H (.ref a) x Q:=⟨⟨a,xs,rfl,h⟩,a,xs,rfl,h,hl,k⟩
theorem app_j {xs:List AV}{x:AV}(h:H a=some (.list xs))(hl:xs.length≤100000)(k:Q .none (upd H a (.list (xs++[x])))):opAppend H (.ref a) x Q:=⟨a,xs,rfl,h,hl,k⟩
theorem pop_i {xs:List AV}{x:AV}(h:H a=some (.list (xs++[x])))(hl:xs.length≤100000)(k:Q x (upd H a (.list xs))):isLi H (.ref a)∧opPop H (.ref a) Q:=⟨⟨a,_,rfl,h⟩,a,xs,x,rfl,h,hl,k⟩
theorem get_i {es:List (Int×AV)}{i:Int}{d:AV}(h:H a=some (.dict es))(k:Q ((es.lookup i).getD d) H):isDi H (.ref a)∧opGet H (.ref a) (.int i) d Q:=⟨⟨a,es,rfl,h⟩,a,es,i,rfl,h,rfl,k⟩
theorem dpop_i {es:List (Int×AV)}{i:Int}(h:H a=some (.dict es))(k:Q ((es.lookup i).getD .none) (upd H a (.dict (es.filter λp=>p.1 != i)))):isDi H (.ref a)∧opDpop H (.ref a) (.int i) Q:=⟨⟨a,es,rfl,h⟩,a,es,i,rfl,h,rfl,k⟩
theorem setl_i {xs:List AV}{i:Int}{v:AV}(h:H a=some (.list xs))(h0:0≤i)(h1:i < (xs.length:Int))(hl:xs.length≤100000)(k:Q' (upd H a (.list (xs.set i.toNat v)))):opSetI H (.ref a) (.int i) v Q':=
 ⟨a,i,rfl,rfl,.inl ⟨xs,h,h0,h1,hl,k⟩⟩
theorem setd_i {es:List (Int×AV)}{i:Int}{v:AV}(h:H a=some (.dict es))(hl:es.length≤100000)(k:Q' (upd H a (.dict (putE es i v)))):opSetI H (.ref a) (.int i) v Q':=⟨a,i,rfl,rfl,.inr ⟨es,h,hl,k⟩⟩
theorem augu_i {m m':Int→Bool}{b:Nat}{K:AHeap→Prop}(h:H a=some (.set m))(hb:H b=some (.set m'))(k:K (upd H a (.set λi=>m i||m' i))) :
  ∃ a' m,AV.ref a=.ref a'∧H a'=some (.set m)∧ok (asSet H (.ref b)) λm'=>K (upd H a' (.set λi=>m i||m' i)):=⟨a,m,rfl,h,ok_mk (congrArg setO hb) k⟩
end
theorem ghost_i {ρ H ρ' H'}{K:AEnv→AHeap→Prop}(v:VS ρ H ρ' H')(k:K ρ' H'):∃ ρ' H',VS ρ H ρ' H'∧K ρ' H':=⟨ρ',H',v,k⟩
theorem wB_gen {C:Oracle}{l:List S} {ρ H Q}(J:AHeap→Prop)(w:J H)(k:∀ G,J G→wB C l ρ G Q):wB C l ρ H Q:=k H w
theorem s_asg {C:Oracle}{n:Nat}{e:E}{r:List S} {ρ H Q}(h:wE C e ρ H λx H=>wB C r (sv ρ n (some x)) H Q):wB C (.asg n e::r) ρ H Q:=h
theorem s_int {C:Oracle}{n:Nat}{i:Int}{r:List S} {ρ H Q}(h:wB C r (sv ρ n (some (.int i))) H Q):wB C (.asg n (.int i)::r) ρ H Q:=h
theorem s_bool {C:Oracle}{n:Nat}{i:Bool}{r:List S} {ρ H Q}(h:wB C r (sv ρ n (some (.bool i))) H Q):wB C (.asg n (.bool i)::r) ρ H Q:=h
theorem s_v {C:Oracle}{n m:Nat}{x:AV}{r:List S} {ρ H Q}(e:gv ρ m=some x)(h:wB C r (sv ρ n (some x)) H Q):wB C (.asg n (.v m)::r) ρ H Q:=ok_mk e h
theorem w_skip {C:Oracle}{s:S}{r:List S} {ρ H Q}(hs:∀ K:Fl→AEnv→AHeap→Prop,K .nx ρ H→wS C s ρ H K)(k:wB C r ρ H Q):wB C (s::r) ρ H Q:=hs _ k
theorem nott {b:Bool}(h:b=true):(!b)=false:=congrArg not h
theorem notf {b:Bool}(h:b=false):(!b)=true:=congrArg not h
theorem followers_ok (n:Nat){H:AHeap}{b d e:Nat}{i s:AV}{x:End}{Q:AV→AHeap→Prop}(hb:H b=some (.inst 1 d))(hd:H d=some (.ns 1 [i,s,endV e x]))(h:Q (.lst (x.succ.map .int)) H) :
  Cn tabP (n+1) 0 [.ref b] H Q:=by
 refine enter rfl rfl ?_
 apply ok_mk (blk_attr 2 hb hd:attrOf H 1 2 (.ref b)=some (endV e x))
 cases x<;>exact h
set_option tactic.hygienic true in
theorem has_effect_ok (n:Nat){H:AHeap} {a r}{Q:AV→AHeap→Prop}(h:Q (.bool (match r with|.store .. | .move .. | .call ..=>true|r=>r.firm)) H):Cn tabP (n+1) 9 [stepV a r] H Q:=by
 refine enter rfl rfl ?_
 cases r<;>(try rename_i o _ _ _;cases o)<;>exact h
abbrev Adr:=Int→Option Int
abbrev ISet:=Int→Bool
noncomputable def sizeS (s:Int):Int:=if s=0 then 8 else if s=3 then 2 else 4
noncomputable def isFree (A:Adr):Row→Bool:=@λy_1=>match @y_1 with
 |.load x_1 (.r x) w x_2 false=>match A x with
  |some s=>decide (w≤sizeS s)
  |none=>false
 |.load ..=>false
 |.store .. | .move .. | .call ..=>false
 |.bin .divu x_1 x_2 (.k v)=>!(v.fmod 4294967296==0)
 |.bin .divu ..=>false
 |x_1=>true
noncomputable def DictAt (H:AHeap) (a:Nat) (A:Adr):Prop:=∃ es,H a=some (.dict es)∧∀ i,es.lookup i=(A i).map .int
noncomputable def SlotsOk (A:Adr):Prop:=∀ x s,A x=some s→0≤s∧s < 4
theorem slot_cases {A:Adr}(h:SlotsOk A){x s:Int}(e:A x=some s):s=0∨s=1∨s=2∨s=3:=by have:=h x s e;lia
section
variable {H:AHeap}
theorem opIn_dict {a es i}(h:H a=some (.dict es)):opCm H .isin (.int i) (.ref a)=some (es.lookup i).isSome:=congrArg (opInO (.int i)) h
theorem opIn_set {a m i}(h:H a=some (.set m)):opCm H .isin (.int i) (.ref a)=some (m i):=congrArg (opInO (.int i)) h
theorem opNotin_set {a m i}(h:H a=some (.set m)):opCm H .notin (.int i) (.ref a)=some (!(m i)):=congrArg (Option.map (!·)) (opIn_set h)
theorem getIx_dict {a es i}(h:H a=some (.dict es)):getIx H (.ref a) (.int i)=es.lookup i:=congrArg (getIxO i) h
end
theorem can_fault_ok (n:Nat){H:AHeap} {a r}{Q:AV→AHeap→Prop}(h:Q (.bool (match r with|.load ..=>true|.bin .divu _ _ (.k v)=>v.fmod 4294967296==0|.bin .divu ..=>true|r=>r.firm)) H):Cn tabP (n+1) 10 [stepV a r] H Q:=by
 refine enter rfl rfl ?_
 cases r with
 |bin o d x y=>cases o<;>(try cases y)<;>exact h
 |store a b w f=>cases f<;>exact h
 |move a b f=>cases f<;>exact h
 |_=>exact h
theorem is_plain_ok (n:Nat){H:AHeap} {a r}{Q:AV→AHeap→Prop}(h:Q (.bool (match r with|.store .. | .move .. | .call .. | .load ..=>false|.bin .divu _ _ (.k v)=>!(v.fmod 4294967296==0)|.bin .divu ..=>false|r=>!r.firm)) H) :
  Cn tabP (n+2) 11 [stepV a r] H Q:=by
 refine enter rfl rfl ?_
 refine has_effect_ok n ?_
 cases r with
 |load d b w s f=>
  cases f with
  |true=>exact h
  |false=>refine can_fault_ok n ?_;exact h
 |bin o d x y=>refine can_fault_ok n ?_;cases o<;>(try cases y)<;>exact h
 |store=>exact h
 |move=>exact h
 |call=>exact h
 |_=>refine can_fault_ok n ?_;exact h
theorem is_free_ok (n:Nat){H:AHeap}{fv:AV} {ad a r A}{Q:AV→AHeap→Prop}(hf:attrOf H 2 3 fv=some slotsV)(hA:DictAt H ad A)(hs:SlotsOk A)(h:Q (.bool (isFree A r)) H) :
  Cn tabP (n+3) 18 [fv,.ref ad,stepV a r] H Q:=by
 obtain⟨es,ha,he⟩:=hA
 refine enter rfl rfl ?_
 cases r with
 |load d o w s f=>
  cases f with
  |true=>refine is_plain_ok n ?_;cases o<;>exact h
  |false=>
   cases o with
   |k v=>exact h
   |r x=>
    apply ok_mk (opIn_dict ha)
    have hl:=he x
    refine ocase (o:=A x) (λhx=>?_) λs hx=>?_
    ·
     rw[hx] at hl
     have h:Q (.bool (match A x with|some s=>decide (w≤sizeS s)|none=>false)) H:=h
     rw[hx] at h
     refine no (by refine rwI hl ?_;rfl) ?_
     refine rwI hl ?_;exact h
    ·
     rw[hx] at hl
     have h:Q (.bool (match A x with|some s=>decide (w≤sizeS s)|none=>false)) H:=h
     rw[hx] at h
     refine yes (by refine rwI hl ?_;rfl) ?_
     apply ok_mk hf
     apply ok_mk ((getIx_dict ha).trans hl)
     rcases slot_cases hs hx with rfl|rfl|rfl|rfl<;>exact h
 |bin o d x y=>cases o<;>first|exact h|(refine is_plain_ok n ?_;cases y<;>exact h)
 |store a b w f=>refine is_plain_ok n ?_;exact h
 |move a b f=>refine is_plain_ok n ?_;exact h
 |call d b f=>refine is_plain_ok n ?_;exact h
 |_=>exact h
theorem forL_map {α:Type}{g:AHeap→Prop}{step:AV→AEnv→AHeap→(Fl→AEnv→AHeap→Prop)→Prop}{Q:Fl→AEnv→AHeap→Prop}(f:α→AV)(I:List α→AEnv→AHeap→Prop)
  (hs:∀ x r ρ H (K:Fl→AEnv→AHeap→Prop),(∀ ρ' H',g H'→I r ρ' H'→K .nx ρ' H')→(∀ ρ' H',g H'→I r ρ' H'→K .ct ρ' H')→(∀ v ρ' H',Q (.rt v) ρ' H'→K (.rt v) ρ' H')→I (x::r) ρ H→step (f x) ρ H K)
  (h0:∀ ρ H,I [] ρ H→Q .nx ρ H):∀ (l:List α) (ρ:AEnv) (H:AHeap),I l ρ H→forL g step (l.map f) ρ H Q:=@λy_1=>@λy_2=>@λy_3=>@λy_4=>match @y_1,@y_2,@y_3,@y_4 with
 |[],ρ,H,h=>h0 ρ H h
 |x::r,ρ,H,h=>by
  refine (?_:step (f x) ρ H _)
  exact hs x r ρ H _ (λρ' H' hg hi=>⟨hg,forL_map f I hs h0 r ρ' H' hi⟩) (λρ' H' hg hi=>⟨hg,forL_map f I hs h0 r ρ' H' hi⟩) (λv ρ' H' q=>q) h
theorem forL_mapE {α:Type}{g:AHeap→Prop}{step:AV→AEnv→AHeap→(Fl→AEnv→AHeap→Prop)→Prop}{Q:Fl→AEnv→AHeap→Prop}(f:α→AV)(I:List α→AEnv→AHeap→Prop){l:List α}{xs:List AV}{ρ:AEnv}{H:AHeap}(e:xs=l.map f)(hi:I l ρ H)
  (hs:∀ x r ρ H (K:Fl→AEnv→AHeap→Prop),(∀ ρ' H',g H'→I r ρ' H'→K .nx ρ' H')→(∀ ρ' H',g H'→I r ρ' H'→K .ct ρ' H')→(∀ v ρ' H',Q (.rt v) ρ' H'→K (.rt v) ρ' H')→I (x::r) ρ H→step (f x) ρ H K)
  (h0:∀ ρ H,I [] ρ H→Q .nx ρ H):forL g step xs ρ H Q:=by subst e;exact forL_map f I hs h0 l ρ H hi
theorem compL_map {α:Type}{g:AHeap→Prop}{step:AV→AHeap→(Option AV→AHeap→Prop)→Prop}(f:α→AV)(I:List α→AHeap→(List AV→AHeap→Prop)→Prop)
  (hs:∀ x r H Q (K:Option AV→AHeap→Prop),(∀ y H',g H'→I r H' (λys=>Q (match y with|some y=>y::ys|none=>ys))→K y H')→I (x::r) H Q→step (f x) H K)
  (h0:∀ H Q,I [] H Q→Q [] H):∀ (l:List α) (H:AHeap) (Q:List AV→AHeap→Prop),I l H Q→compL g step (l.map f) H Q:=@λy_1=>@λy_2=>@λy_3=>@λy_4=>match @y_1,@y_2,@y_3,@y_4 with
 |[],H,Q,h=>h0 H Q h
 |x::r,H,Q,h=>by
  refine (?_:step (f x) H _)
  exact hs x r H Q _ (λy H' hg hi=>⟨hg,compL_map f I hs h0 r H' _ hi⟩) h
theorem compL_mapE {α:Type}{g:AHeap→Prop}{step:AV→AHeap→(Option AV→AHeap→Prop)→Prop}(f:α→AV)(I:List α→AHeap→(List AV→AHeap→Prop)→Prop){l:List α}{xs:List AV}{H:AHeap}{Q:List AV→AHeap→Prop}(e:xs=l.map f)(hi:I l H Q)
  (hs:∀ x r H Q (K:Option AV→AHeap→Prop),(∀ y H',g H'→I r H' (λys=>Q (match y with|some y=>y::ys|none=>ys))→K y H')→I (x::r) H Q→step (f x) H K)
  (h0:∀ H Q,I [] H Q→Q [] H):compL g step xs H Q:=by subst e;exact compL_map f I hs h0 l H Q hi
theorem upd_upd (H:AHeap)(a:Nat)(o o':AObj):upd (upd H a o) a o'=upd H a o':=by
 funext b;unfold upd;split<;>rfl
set_option tactic.hygienic true in
theorem upd_same {H:AHeap}{a:Nat}{o:AObj}(h:H a=some o):upd H a o=H:=by
 funext b;unfold upd;split
 ·rename_i e;(refine rwI e ?_;refine rwI h ?_;rfl)
 ·rfl
theorem upd_comm {H:AHeap}{a b:Nat}(o o':AObj)(n:a≠b):upd (upd H a o) b o'=upd (upd H b o') a o:=by
 funext c;unfold upd;split<;>split<;>first|rfl|(exfalso;simp_all)
theorem keepS {H:AHeap}{hr a:Nat}{m m':ISet}{o:AObj}(h:H hr=some (.set m))(ha:H a=some o)(ho:∀ m,o≠.set m):upd H hr (.set m') a=some o:=by
 rw[upd_ne];exact ha
 rintro rfl;rw[h] at ha;(replace ha:=Option.some.inj ha;subst ha);exact ho m rfl
theorem DictAt.keepS {H:AHeap}{hr a:Nat}{m m':ISet}{A:Adr}(h:H hr=some (.set m))(d:DictAt H a A):DictAt (upd H hr (.set m')) a A:=by
 obtain⟨es,e,he⟩:=d
 exact⟨es,Mine.Internal.keepS h e (λx_ e=>by exact nomatch e),he⟩
noncomputable def uses (l:List Opd) (m:ISet):ISet:=λi=>m i||l.contains (.r i)
noncomputable def RegsOk (l:List Opd):Prop:=∀ i,.r i∈l→0≤i∧i < 21
theorem RegsOk.tail {x:Opd}{l:List Opd}(h:RegsOk (x::l)):RegsOk l:=λi hi=>h i (.tail _ hi)
theorem uses_nil (m:ISet):uses [] m=m:=by funext i;simp[uses]
theorem uses_r (i:Int)(l:List Opd)(m:ISet):uses (.r i::l) m=uses l (λj=>m j||j==i):=by
 funext j
 have:(Opd.r j==Opd.r i)=(j==i):=by (refine rwI (propext Bool.eq_iff_iff) ?_;refine rwI (propext beq_iff_eq) ?_;refine rwI (propext beq_iff_eq) ?_;refine rwI opd_r ?_;rfl)
 simp only[uses,List.contains_cons,Bool.or_assoc,this]
theorem uses_k (v:Int)(l:List Opd)(m:ISet):uses (.k v::l) m=uses l m:=by
 funext j;simp only[uses,List.contains_cons]
 have:(Opd.r j==Opd.k v)=false:=by simp
 (refine rwI this ?_;refine rwI (Bool.false_or ..) ?_;rfl)
section
variable {C:Oracle}{H:AHeap}{hr:Nat}{Q:Fl→AEnv→AHeap→Prop}
theorem add_args7 {v0 v1 v2 v4:Option AV}(l:List Opd)(hl:RegsOk l):∀ (m:ISet)(k v:Option AV),H hr=some (.set m)→(∀ k' v',Q .nx [v0,v1,v2,some (.ref hr),v4,k',v'] (upd H hr (.set (uses l m)))) →
  forL (guardOf (l.map opdV) none) (stepF C (.many [5,6]) [.iff (.cmp .eq (.v 5) (.str "r")) [.ex (.add (.v 3) (.v 6))] []]) (l.map opdV) [v0,v1,v2,some (.ref hr),v4,k,v] H Q:=by
 intro m k v hm hQ
 refine forL_map opdV (λl' ρ H'=>RegsOk l'∧Ex3 λk v m'=>And3 (ρ=[v0,v1,v2,some (.ref hr),v4,k,v]) (H'=upd H hr (.set m')) (uses l' m'=uses l m)) ?_ ?_ l _ H ⟨hl,k,v,m,rfl,(upd_same hm).symm,rfl⟩
 ·rintro x r ρ H' K K1 K2 K3 ⟨hl',k,v,m',rfl,rfl,e⟩
  cases x with
  |r i=>
   have:=hl' i (.head _)
   refine add_i (upd_self ..) this.1 (Int.lt_trans this.2 (by decide)) ?_
   refine K1 _ _ trivial ⟨hl'.tail,_,_,_,rfl,upd_upd ..,?_⟩
   (refine rwS e ?_;refine rwI (uses_r ..) ?_;rfl)
  |k i=>
   exact K1 _ _ trivial ⟨hl'.tail,_,_,_,rfl,rfl,by (refine rwS e ?_;refine rwI (uses_k ..) ?_;rfl)⟩
 ·rintro ρ H' ⟨_,k,v,m',rfl,rfl,e⟩
  rw[uses_nil] at e;refine rwI e ?_;exact hQ _ _
theorem add_args8 {v0 v1 v2 v4 v5:Option AV}(l:List Opd)(hl:RegsOk l):∀ (m:ISet)(k v:Option AV),H hr=some (.set m)→(∀ k' v',Q .nx [v0,v1,v2,some (.ref hr),v4,v5,k',v'] (upd H hr (.set (uses l m)))) →
  forL (guardOf (l.map opdV) none) (stepF C (.many [6,7]) [.iff (.cmp .eq (.v 6) (.str "r")) [.ex (.add (.v 3) (.v 7))] []]) (l.map opdV) [v0,v1,v2,some (.ref hr),v4,v5,k,v] H Q:=by
 intro m k v hm hQ
 refine forL_map opdV (λl' ρ H'=>RegsOk l'∧Ex3 λk v m'=>And3 (ρ=[v0,v1,v2,some (.ref hr),v4,v5,k,v]) (H'=upd H hr (.set m')) (uses l' m'=uses l m)) ?_ ?_ l _ H ⟨hl,k,v,m,rfl,(upd_same hm).symm,rfl⟩
 ·rintro x r ρ H' K K1 K2 K3 ⟨hl',k,v,m',rfl,rfl,e⟩
  cases x with
  |r i=>
   have:=hl' i (.head _)
   refine add_i (upd_self ..) this.1 (Int.lt_trans this.2 (by decide)) ?_
   refine K1 _ _ trivial ⟨hl'.tail,_,_,_,rfl,upd_upd ..,?_⟩
   (refine rwS e ?_;refine rwI (uses_r ..) ?_;rfl)
  |k i=>
   exact K1 _ _ trivial ⟨hl'.tail,_,_,_,rfl,rfl,by (refine rwS e ?_;refine rwI (uses_k ..) ?_;rfl)⟩
 ·rintro ρ H' ⟨_,k,v,m',rfl,rfl,e⟩
  rw[uses_nil] at e;refine rwI e ?_;exact hQ _ _
theorem add_args8' {v0 v1 v2 v4 v5:Option AV}{xs:List AV}(l:List Opd)(e:xs=l.map opdV)(hl:RegsOk l)(m:ISet)(k v:Option AV)(hm:H hr=some (.set m))(hQ:∀ k' v',Q .nx [v0,v1,v2,some (.ref hr),v4,v5,k',v'] (upd H hr (.set (uses l m)))) :
  forL (guardOf xs none) (stepF C (.many [6,7]) [.iff (.cmp .eq (.v 6) (.str "r")) [.ex (.add (.v 3) (.v 7))] []]) xs [v0,v1,v2,some (.ref hr),v4,v5,k,v] H Q:=by subst e;exact add_args8 l hl m k v hm hQ
end
noncomputable def liveStep (A:Adr) (r:Row) (m:ISet):ISet:=
 match m r.dst with
 |true=>uses r.args λj=>m j&&j != r.dst
 |false=>match isFree A r with
  |true=>m
  |false=>uses r.args m
noncomputable def liveRows (A:Adr) (l:List Row) (m:ISet):ISet:=l.foldr (liveStep A) m
noncomputable def RowsRegs (l:List (Nat×Row)):Prop:=∀ p∈l,RegsOk p.2.args
section
variable {H:AHeap}
theorem need_ahead_ok (n:Nat){ly:Lay}{ad b d hr e:Nat}{i:AV}{ps:List (Nat×Row)}{x:End}{A:Adr}{m0:ISet}{Q:AV→AHeap→Prop}(hb:H b=some (.inst 1 d))(hd:H d=some (.ns 1 [i,.lst (stepsV ps),endV e x]))
  (hh:H hr=some (.set m0)) (hA:DictAt H ad A) (hs:SlotsOk A) (hp:RowsRegs ps) (hx:RegsOk x.args) (h:Q (.ref hr) (upd H hr (.set (liveRows A (ps.map (·.2)) (uses x.args m0))))) :
  Cn tabP (n+4) 19 [bodyV ly,.ref ad,.ref b,.ref hr] H Q:=by
 refine enter rfl rfl ?_
 apply ok_mk (blk_attr 2 hb hd:attrOf H 1 2 (.ref b)=some (endV e x))
 refine add_args7 (C:=Cn tabP (n+3)) x.args hx m0 _ _ hh λk' v'=>?_
 have hb':∀ m,upd H hr (.set m) b=some (.inst 1 d):=λm=>keepS hh hb λx_ e=>by exact nomatch e
 have hd':∀ m,upd H hr (.set m) d=some (.ns 1 [i,.lst (stepsV ps),endV e x]):=λm=>keepS hh hd λx_ e=>by exact nomatch e
 have hA':∀ m,DictAt (upd H hr (.set m)) ad A:=λm=>hA.keepS hh
 have e1:∀ m,attrOf (upd H hr (.set m)) 1 1 (.ref b)=some (.lst (stepsV ps)):=λm=>blk_attr 1 (hb' m) (hd' m)
 apply ok_mk (e1 _)
 refine forL_mapE (l:=ps.reverse) (λp:Nat×Row=>stepV p.1 p.2) (λl ρ H'=>(∀ p∈l,RegsOk p.2.args)∧Ex4 λj1 j2 j3 m=>And3 (ρ=[some (bodyV ly),some (.ref ad),some (.ref b),some (.ref hr),j1,j2,j3]) (H'=upd H hr (.set m)) (l.foldl (λm p=>liveStep A p.2 m) m=liveRows A (ps.map (·.2)) (uses x.args m0))) List.map_reverse.symm ⟨λp hp'=>hp p (List.mem_reverse.mp hp'),_,_,_,_,rfl,rfl,by (refine rwI List.foldl_reverse ?_;rewrite [liveRows];refine rwI List.foldr_map ?_;rfl)⟩ ?_ ?_
 ·rintro x0 l ρ H' K K1 K2 K3 ⟨hl,j1,j2,j3,m,rfl,rfl,hm⟩
  obtain⟨a,r⟩:=x0
  have hr0:=hl _ (.head _)
  have hl':∀ p∈l,RegsOk p.2.args:=λp hp'=>hl p (.tail _ hp')
  simp only[List.foldl_cons,liveStep] at hm
  apply ok_mk (opIn_set (upd_self ..))
  cases hm1:m r.dst with
  |true=>
   rw[hm1] at hm
   refine disc_i (upd_self ..) ?_
   refine add_args7 (C:=Cn tabP (n+3)) r.args hr0 _ j2 j3 (upd_self ..) λk' v'=>?_
   refine K1 _ _ trivial ⟨hl',_,_,_,_,rfl,(upd_upd ..).trans (upd_upd ..),hm⟩
  |false=>
   rw[hm1] at hm
   refine is_free_ok n bodyV_slots (hA' m) hs ?_
   cases hf:isFree A r with
   |true=>
    rw[hf] at hm
    exact K2 _ _ trivial ⟨hl',_,_,_,_,rfl,rfl,hm⟩
   |false=>
    rw[hf] at hm
    refine add_args7 (C:=Cn tabP (n+3)) r.args hr0 _ j2 j3 (upd_self ..) λk' v'=>?_
    exact K1 _ _ trivial ⟨hl',_,_,_,_,rfl,upd_upd ..,hm⟩
 ·rintro ρ H' ⟨_,j1,j2,j3,m,rfl,rfl,hm⟩
  rw[List.foldl_nil] at hm
  refine rwI hm ?_;exact h
noncomputable def SetsAt (H:AHeap) (a:Nat) (ks:List Int) (L:Int→ISet):Prop:=∃ es,H a=some (.dict es)∧∀ j∈ks,∃ s,es.lookup j=some (.ref s)∧H s=some (.set (L j))
noncomputable def behind (L:Int→ISet) (x:End):ISet:=λr=>x.succ.any λj=>L j r
theorem need_behind_ok (n:Nat){ad b d e:Nat}{i s:AV}{x:End}{L:Int→ISet}{Q:AV→AHeap→Prop}(hb:H b=some (.inst 1 d))(hd:H d=some (.ns 1 [i,s,endV e x]))
  (hL:SetsAt H ad x.succ L) (h:∀ a,H a=none→Q (.ref a) (upd H a (.set (behind L x)))):Cn tabP (n+2) 20 [.ref b,.ref ad] H Q:=by
 refine enter rfl rfl ?_
 obtain⟨es,hes,hks⟩:=hL
 intro a ha
 have ne:∀ {c o},H c=some o→∀ m,upd H a (.set m) c=some o:=λ{c o} hc m=>by
  rw[upd_ne];exact hc
  rintro rfl;rw[ha] at hc;cases hc
 refine followers_ok n (ne hb _) (ne hd _) ?_
 refine forL_map AV.int (λl ρ H'=>(∀ j∈l,j∈x.succ)∧Ex2 λj1 m=>And3 (ρ=[some (.ref b),some (.ref ad),some (.ref a),j1]) (H'=upd H a (.set m)) ((λr=>m r||l.any λj=>L j r)=behind L x)) ?_ ?_ _ _ _
  ⟨λx_ hj=>hj,_,_,rfl,rfl,by funext r;rfl⟩
 ·rintro j l ρ H' K K1 K2 K3 ⟨hl,j1,m,rfl,rfl,hm⟩
  obtain⟨s,hj,hs⟩:=hks j (hl j (.head _))
  apply ok_mk ((getIx_dict (ne hes _)).trans hj)
  refine augu_i (upd_self ..) (ne hs _) ?_
  refine K1 _ _ trivial ⟨λj hj'=>hl j (.tail _ hj'),_,_,rfl,upd_upd ..,?_⟩
  refine rwS hm ?_;funext r;simp[Bool.or_assoc]
 ·rintro ρ H' ⟨_,j1,m,rfl,rfl,hm⟩
  have:m=behind L x:=by refine rwS hm ?_;funext r;simp
  refine rwI this ?_;exact h a ha
end
section
variable {H:AHeap}
theorem opSetA_ok {a d c k:Nat}{fs:List AV}{v:AV}{Q:AHeap→Prop}(ha:H a=some (.inst c d))(hd:H d=some (.ns c fs))(hk:k≤fs.length)(h:Q (upd H d (.ns c (putF fs k v)))):opSetA H (.ref a) c k v Q:=
 ⟨a,d,fs,rfl,ha,hd,hk,h⟩
theorem ne_of_objs {a b:Nat}{o o':AObj}(ha:H a=some o)(hb:H b=some o')(n:o≠o'):a≠b:=by
 rintro rfl;rw[ha] at hb;(replace hb:=Option.some.inj hb;subst hb);exact n rfl
theorem init_Step_ok (n:Nat){a d:Nat}{v1 v2 v3 v4:AV}{Q:AV→AHeap→Prop}(ha:H a=some (.inst 0 d))(hd:H d=some (.ns 0 []))(h:Q .none (upd H d (.ns 0 [v1,v2,v3,v4,.bool false,.int 0]))) :
  Cn tabP (n+1) 46 [.ref a,v1,v2,v3,v4] H Q:=by
 refine enter rfl rfl ?_
 have had:a≠d:=ne_of_objs ha hd (by simp)
 have ha':∀ o,upd H d o a=some (.inst 0 d):=λo=>by refine rwI (upd_ne _ had) ?_;exact ha
 refine opSetA_ok ha hd (Nat.zero_le _) ?_
 refine opSetA_ok (ha' _) (upd_self ..) (Nat.le_refl _) ?_
 refine rwI (upd_upd ..) ?_
 refine opSetA_ok (ha' _) (upd_self ..) (Nat.le_refl _) ?_
 refine rwI (upd_upd ..) ?_
 refine opSetA_ok (ha' _) (upd_self ..) (Nat.le_refl _) ?_
 refine rwI (upd_upd ..) ?_
 refine opSetA_ok (ha' _) (upd_self ..) (Nat.le_refl _) ?_
 refine rwI (upd_upd ..) ?_
 refine opSetA_ok (ha' _) (upd_self ..) (Nat.le_refl _) ?_
 refine rwI (upd_upd ..) ?_
 exact h
set_option tactic.hygienic true in
theorem del_upd_none {a:Nat}{o:AObj}(h:H a=none):del (upd H a o) a=H:=by
 funext b;unfold del upd;split
 ·rename_i e;(refine rwI e ?_;refine rwI h ?_;rfl)
 ·rfl
theorem in_place_of_ok (n:Nat){st op dst args more:AV}{a0 c0:Nat}{fs:List AV}{Q:AV→AHeap→Prop}(hst:st=.obj a0 c0 fs)(hl:attrOf H 0 5 st=some (.int 0))(hl':∀ H',attrOf H' 0 5 st=attrOf H 0 5 st)
  (h:∀ a,a≠a0→Q (.obj a 0 [op,dst,args,more,.bool false,.int 0]) H):Cn tabP (n+2) 14 [st,op,dst,args,more] H Q:=by
 refine enter rfl rfl ?_
 refine And.intro (by decide) λa d ha hd had hP=>?_
 have na:a≠a0:=λe=>hP ⟨0,c0,fs,by (refine rwI e ?_;refine rwS hst ?_);rfl⟩
 refine init_Step_ok n (upd_self ..) (d:=d) (by refine rwI (upd_ne _ (Ne.symm had)) ?_;exact upd_self ..) ⟨rfl,?_⟩
 have e1:upd (upd (upd H d (.ns 0 [])) a (.inst 0 d)) d (.ns 0 [op,dst,args,more,.bool false,.int 0])=upd (upd H d (.ns 0 [op,dst,args,more,.bool false,.int 0])) a (.inst 0 d):=by
  (refine rwI (upd_comm _ _ had) ?_;refine rwI (upd_upd ..) ?_;rfl)
 refine rwI e1 ?_
 apply ok_mk ((hl' _).trans hl)
 refine opSetA_ok (upd_self ..) (d:=d) (by refine rwI (upd_ne _ (Ne.symm had)) ?_;exact upd_self ..) (Nat.le_of_ble_eq_true rfl) ?_
 (refine rwI (upd_comm _ _ had) ?_;refine rwI (upd_upd ..) ?_)
 refine ghost_i (.frzObj (n:=5) rfl (upd_self ..) (d:=d) (fs:=[op,dst,args,more,.bool false,.int 0]) (by refine rwI (upd_ne _ (Ne.symm had)) ?_;exact upd_self ..)) ?_
 have ha':upd H d (.ns 0 [op,dst,args,more,.bool false,.int 0]) a=none:=by refine rwI (upd_ne _ had) ?_;exact ha
 have e2:del (del (upd (upd H d (.ns 0 [op,dst,args,more,.bool false,.int 0])) a (.inst 0 d)) a) d=H:=by
  (refine rwI (del_upd_none ha') ?_;refine rwI (del_upd_none hd) ?_;rfl)
 refine (?_:Q _ (del (del (upd (upd H d (.ns 0 [op,dst,args,more,.bool false,.int 0])) a (.inst 0 d)) a) d))
 refine rwI e2 ?_
 exact h a na
theorem without_register_ok (n:Nat){a0:Nat}{d:Int}{o:Opd}{p:Bool}{Q:AV→AHeap→Prop}(h:∀ a,a≠a0→Q (stepV a (.call (-1) o p)) H):Cn tabP (n+3) 22 [stepV a0 (.call d o p)] H Q:=by
 refine enter rfl rfl ?_
 exact in_place_of_ok n rfl rfl (λx_=>rfl) λa ha=>h a ha
end
noncomputable def sweepStep (A:Adr) (r:Row) (s:ISet×List Row):ISet×List Row:=
 match s.1 r.dst with
 |true=>(uses r.args λj=>s.1 j&&j != r.dst,r::s.2)
 |false=>match isFree A r with
  |true=>s
  |false=>(uses r.args s.1,r.drop::s.2)
noncomputable def sweepPair (A:Adr) (l:List Row) (m:ISet):ISet×List Row:=l.foldr (sweepStep A) (m,[])
noncomputable def sweepRows (A:Adr) (l:List Row) (m:ISet):List Row:=(sweepPair A l m).2
inductive Kept:List (Nat×Row)→List (Nat×Row)→Prop
 |nil:Kept [] []
 |same {l k} (p):Kept l k→Kept (p::l) (p::k)
 |gone {l k} (p):Kept l k→Kept (p::l) k
 |new {l k a a' r r'}:a'≠a→r'≠r→Kept l k→Kept ((a,r)::l) ((a',r')::k)
theorem Kept.len {l k}(h:Kept l k):k.length≤l.length:=by
 induction h with
 |nil=>exact Nat.le_refl _
 |same p _ ih=>simpa using ih
 |gone p _ ih=>exact Nat.le_succ_of_le ih
 |new _ _ _ ih=>simpa using ih
noncomputable def NoSelf (l:List (Nat×Row)):Prop:=∀ p∈l,∀ d,p.2≠.copy d (.r d)
theorem drop_eq {r:Row}(h0:-1≤r.dst)(h:decide (r.dst ≥ 0)=false):r.drop=r:=by
 cases r with
 |call d o p=>
  have h1:¬ d ≥ 0:=of_decide_eq_false h
  have h0:-1≤d:=h0
  have:d = -1:=by lia
  refine rwI this ?_;rfl
 |_=>rfl
theorem drop_ne {d:Int}{o:Opd}{p:Bool}(h:decide (d ≥ 0)=true):(Row.call d o p).drop≠.call d o p:=λe=>by
 have h:d ≥ 0:=of_decide_eq_true h
 have e:-1=d:=congrArg Row.dst e
 lia
theorem dropArgs (r:Row):r.drop.args=r.args:=by cases r<;>rfl
theorem opd_veq (o:Opd)(d:Int):veq (opdV o) (.tup [.str "r",.int d])=decide (o=.r d):=by
 cases o with
 |r n=>
  refine (?_:(n==d&&true)=_)
  (refine rwI (Bool.and_true ..) ?_;refine rwI (propext Bool.eq_iff_iff) ?_;refine rwI (propext beq_iff_eq) ?_;refine rwI (propext decide_eq_true_iff) ?_;refine rwI opd_r ?_;rfl)
 |k n=>rfl
theorem opEq_opd {H:AHeap}(o:Opd)(d:Int):opCm H .eq (opdV o) (.tup [.str "r",.int d])=some (decide (o=.r d)):=by
 have:opEq H (opdV o) (.tup [.str "r",.int d])=some (veq (opdV o) (.tup [.str "r",.int d])):=by cases o<;>rfl
 refine (?_:opEq H _ _=_)
 (refine rwI this ?_;refine rwI (opd_veq ..) ?_;rfl)
section
variable {H:AHeap}
theorem swap3 {hr kk:Nat}(n:hr≠kk)(x x' y:AObj):upd (upd (upd H hr x) kk y) hr x'=upd (upd H hr x') kk y:=by
 (refine rwI (upd_comm _ _ (Ne.symm n)) ?_;refine rwI (upd_upd ..) ?_;rfl)
theorem copy_skip {C:Oracle}{v0 v1 v2 v3 v4:Option AV} {j2 j3}{a:Nat}{r:Row}{K:Fl→AEnv→AHeap→Prop}(hself:∀ d,r≠.copy d (.r d))(k:K .nx [v0,v1,v2,v3,v4,some (stepV a r),j2,j3] H) :
  wS C (.iff (.and (.cmp .eq (.attr (.v 5) 0 0) (.str "copy")) (.cmp .eq (.idx (.attr (.v 5) 0 2) (.int 0)) (.tup [.str "r",.attr (.v 5) 0 1]))) [.cont] []) [v0,v1,v2,v3,v4,some (stepV a r),j2,j3] H K:=by
 cases r with
 |bin o _ _ _=>cases o<;>exact k
 |copy dd o=>
  apply ok_mk (opEq_opd o dd)
  have ne:decide (o=.r dd)=false:=decide_eq_false λe:o=.r dd=>hself dd (by (refine rwI e ?_;rfl))
  exact no ne k
 |_=>exact k
theorem swept_steps_ok (n:Nat){ly:Lay}{ad b d hr e:Nat}{i:AV}{ps:List (Nat×Row)}{x:End}{A:Adr}{m0:ISet}{Q:AV→AHeap→Prop}(hb:H b=some (.inst 1 d))(hd:H d=some (.ns 1 [i,.lst (stepsV ps),endV e x]))
  (hh:H hr=some (.set m0)) (hA:DictAt H ad A) (hs:SlotsOk A) (hp:RowsRegs ps) (hx:RegsOk x.args) (hn:NoSelf ps) (hdst:∀ p∈ps,-1≤p.2.dst) (hl:ps.length≤1000)
  (h:∀ K H',Kept ps K→K.map (·.2)=sweepRows A (ps.map (·.2)) (uses x.args m0)→(∀ y o,y≠hr→H y=some o→H' y=some o)→Q (.lst (stepsV K)) H') :
  Cn tabP (n+4) 23 [bodyV ly,.ref ad,.ref b,.ref hr] H Q:=by
 refine enter rfl rfl ?_
 apply ok_mk (blk_attr 2 hb hd:attrOf H 1 2 (.ref b)=some (endV e x))
 refine add_args8 (C:=Cn tabP (n+3)) x.args hx m0 _ _ hh λk' v'=>?_
 intro kk hkk
 have nkk:hr≠kk:=by rintro rfl;rw[upd_self] at hkk;exact nomatch hkk
 have hkk0:H kk=none:=by rw[upd_ne _ (Ne.symm nkk)] at hkk;exact hkk
 have old:∀ {y o},H y=some o→(∀ m,o≠.set m)→∀ m L,upd (upd H hr (.set m)) kk (.list L) y=some o:=λ{y o} hy ho m L=>by
  rw[upd_ne];exact keepS hh hy ho
  rintro rfl;rw[hkk0] at hy;exact nomatch hy
 have atS:∀ m L,upd (upd H hr (.set m)) kk (.list L) hr=some (.set m):=λm L=>by refine rwI (upd_ne _ nkk) ?_;exact upd_self ..
 have e1:∀ m L,attrOf (upd (upd H hr (.set m)) kk (.list L)) 1 1 (.ref b)=some (.lst (stepsV ps)):=λm L=>blk_attr 1 (old hb (λx_ e=>by exact nomatch e) m L) (old hd (λx_ e=>by exact nomatch e) m L)
 have hA':∀ m L,DictAt (upd (upd H hr (.set m)) kk (.list L)) ad A:=λm L=>by
  obtain⟨es,h1,h2⟩:=hA
  exact⟨es,old h1 (λx_ e=>by exact nomatch e) m L,h2⟩
 apply ok_mk (e1 _ _)
 refine forL_mapE (l:=ps.reverse) (λp:Nat×Row=>stepV p.1 p.2) (λl ρ H'=>(∀ p∈l,RegsOk p.2.args∧∀ d,p.2≠.copy d (.r d))∧Ex6 λj1 j2 j3 m K dn=>And5 (ρ=[some (bodyV ly),some (.ref ad),some (.ref b),some (.ref hr),some (.ref kk),j1,j2,j3]) (H'=upd (upd H hr (.set m)) kk (.list (stepsV K.reverse))) (ps=l.reverse++dn) (Kept dn K) ((m,K.map (·.2))=sweepPair A (dn.map (·.2)) (uses x.args m0))) List.map_reverse.symm
   ⟨λp hp'=>⟨hp p (List.mem_reverse.mp hp'),hn p (List.mem_reverse.mp hp')⟩,_,_,_,_,[],[],rfl,rfl,by (refine rwI (List.reverse_reverse ..) ?_;refine rwI (List.append_nil ..) ?_;rfl),.nil,rfl⟩ ?_ ?_
 ·rintro x0 l ρ H' K K1 K2 K3 ⟨hl',j1,j2,j3,m,kp,dn,rfl,rfl,hps,hkp,hm⟩
  obtain⟨a,r⟩:=x0
  obtain⟨hr0,hself⟩:=hl' _ (.head _)
  have hl'':∀ p∈l,RegsOk p.2.args∧∀ d,p.2≠.copy d (.r d):=λp hp'=>hl' p (.tail _ hp')
  have hps':ps=l.reverse++((a,r)::dn):=by refine rwI hps ?_;simp
  have lk:kp.length≤1000:=by
   have:=hkp.len
   have:ps.length=l.length+1+dn.length:=by refine rwI hps ?_;simp;lia
   lia
  have fin:∀ (a':Nat) (r':Row) (m2:ISet),r'.args=r.args→Kept ((a,r)::dn) ((a',r')::kp)→(uses r.args m2,r'::kp.map (·.2))=sweepPair A (((a,r)::dn).map (·.2)) (uses x.args m0) →
    wB (Cn tabP (n+3)) [.forr (.many [6,7]) .plain [.attr (.v 5) 0 2] [.iff (.cmp .eq (.v 6) (.str "r")) [.ex (.add (.v 3) (.v 7))] []],.ex (.append (.v 4) (.v 5))]
     [some (bodyV ly),some (.ref ad),some (.ref b),some (.ref hr),some (.ref kk),some (stepV a' r'),j2,j3] (upd (upd H hr (.set m2)) kk (.list (stepsV kp.reverse))) K:=by
   intro a' r' m2 har hk2 hm2
   have hargs:(List.map opdV r'.args)=List.map opdV r.args:=by (refine rwI har ?_;rfl)
   refine add_args8' (C:=Cn tabP (n+3)) r.args hargs hr0 m2 j2 j3 (atS _ _) λk' v'=>?_
   refine app_i (xs:=stepsV kp.reverse) ((upd_ne _ (Ne.symm nkk)).trans (upd_self ..)) ?_ ?_
   ·(rewrite [stepsV];refine rwI (List.length_map ..) ?_;refine rwI List.length_reverse ?_);lia
   ·refine K1 _ _ trivial ⟨hl'',_,_,_,_,(a',r')::kp,(a,r)::dn,rfl,?_,hps',hk2,hm2⟩
    (rewrite [swap3 nkk];refine rwI (upd_upd ..) ?_;refine rwI List.reverse_cons ?_;rewrite [stepsV,stepsV];refine rwI List.map_append ?_);rfl
  have hm':sweepPair A (((a,r)::dn).map (·.2)) (uses x.args m0)=sweepStep A r (m,kp.map (·.2)):=by
   refine rwI hm ?_;rfl
  apply ok_mk (opIn_set (atS _ _))
  cases hm1:m r.dst with
  |true=>
   have hm2:sweepPair A (((a,r)::dn).map (·.2)) (uses x.args m0)=(uses r.args λj=>m j&&j != r.dst,r::kp.map (·.2)):=by
    (refine rwI hm' ?_;rewrite [sweepStep]);simp only[hm1]
   have key:=fin a r (λj=>m j&&j != r.dst) rfl (.same _ hkp) hm2.symm
   rw[← swap3 nkk (.set m)] at key
   refine w_skip (λK k=>copy_skip hself k) ?_
   exact disc_i (atS _ _) key
  |false=>
   refine is_free_ok n bodyV_slots (hA' _ _) hs ?_
   cases hf:isFree A r with
   |true=>
    refine K2 _ _ trivial ⟨hl'',_,_,_,_,kp,(a,r)::dn,rfl,rfl,hps',.gone _ hkp,?_⟩
    (refine rwI hm' ?_;rewrite [sweepStep]);simp only[hm1,hf]
   |false=>
    have hm2:sweepPair A (((a,r)::dn).map (·.2)) (uses x.args m0)=(uses r.args m,r.drop::kp.map (·.2)):=by
     (refine rwI hm' ?_;rewrite [sweepStep]);simp only[hm1,hf]
    have key:=λa' (hk2:Kept ((a,r)::dn) ((a',r.drop)::kp))=>fin a' r.drop m (dropArgs r) hk2 hm2.symm
    have hd0:-1≤r.dst:=hdst (a,r) (by refine rwI hps ?_;simp)
    refine bcase (b:=decide (r.dst ≥ 0)) (λhdp=>?_) λhdp=>?_
    ·
     have e:r.drop=r:=drop_eq hd0 hdp
     have q:=key a (by refine rwI e ?_;exact .same _ hkp)
     rw[e] at q
     apply no hdp
     exact no hdp q
    ·
     apply yes hdp
     clear hm2 hd0 fin hm' hm1 hf hself hr0 hps' hl'' hps hm hl'
     cases r with
     |call d o p=>
      refine without_register_ok n λa' na=>?_
      exact key a' (.new na (drop_ne hdp) hkp)
     |bin o _ _ _=>cases o<;>exact key a (.same _ hkp)
     |_=>exact key a (.same _ hkp)
 ·rintro ρ H' ⟨_,j1,j2,j3,m,kp,dn,rfl,rfl,hps,hkp,hm⟩
  apply ok_mk (lstOf_list (upd_self ..))
  refine (?_:Q (.lst (stepsV kp.reverse).reverse) _)
  rw[show (stepsV kp.reverse).reverse=stepsV kp by (rewrite [stepsV];refine rwS List.map_reverse ?_;refine rwI (List.reverse_reverse ..) ?_);rfl]
  have hd':ps=dn:=by simpa using hps
  subst hd'
  refine h kp _ hkp (by have:=congrArg Prod.snd hm;exact this) λy o ny hy=>?_
  have:y≠kk:=by rintro rfl;rw[hkk0] at hy;exact nomatch hy
  (refine rwI (upd_ne _ this) ?_;refine rwI (upd_ne _ ny) ?_);exact hy
end
theorem whl_I {C:Oracle} {t b Q ρ H}(I:Nat→AEnv→AHeap→Prop)(n:Nat)(h0:I n ρ H)
  (hs:∀ n ρ H (K:Fl→AEnv→AHeap→Prop),(∀ m ρ' H',m < n→I m ρ' H'→K .nx ρ' H')→(∀ m ρ' H',m < n→I m ρ' H'→K .ct ρ' H')→(∀ v ρ' H',Q (.rt v) ρ' H'→K (.rt v) ρ' H')→I n ρ H →
   wE C t ρ H λx H=>ok (truth H x) λtt=>match tt with
    |true=>wB C b ρ H K
    |false=>Q .nx ρ H):wS C (.whl t b) ρ H Q:=by
 refine Exists.intro I (Exists.intro n ?_)
 refine⟨h0,λn ρ H hi=>?_⟩
 exact hs n ρ H (λf ρ' H'=>match f with|.rt v=>Q (.rt v) ρ' H'|_=>∃ m,m < n∧I m ρ' H') (λm ρ' H' hm hi=>⟨m,hm,hi⟩) (λm ρ' H' hm hi=>⟨m,hm,hi⟩) (λv ρ' H' q=>q) hi
noncomputable def succS (br:Bool) (i:Int):List Int:=if i=0 then [1] else if i=1 then (match br with|true=>[2,3]|false=>[2]) else if i=2 then [1,3] else []
noncomputable def Shape (br:Bool) (E:Ens):Prop:=∀ i,0≤i→i < 4→(E i).succ=succS br i
theorem i4 {i:Int}(h0:0≤i)(h1:i < 4):i=0∨i=1∨i=2∨i=3:=by lia
noncomputable def pick4 {α:Type} (a b c d:α):Int→α:=λi=>if i=0 then a else if i=1 then b else if i=2 then c else d
theorem all4 {P:Int→Prop}(h0:P 0)(h1:P 1)(h2:P 2)(h3:P 3):∀ i,0≤i→i < 4→P i:=λi a b=>by
 rcases i4 a b with e|e|e|e
 ·exact e ▸ h0
 ·exact e ▸ h1
 ·exact e ▸ h2
 ·exact e ▸ h3
theorem succS_in {br:Bool}{i x:Int}(h:x∈succS br i):0≤x∧x < 4:=by
 unfold succS at h
 split at h
 ·simp at h;lia
 ·split at h
  ·cases br<;>simp at h<;>lia
  ·split at h
   ·simp at h;lia
   ·simp at h
noncomputable def Ext (H H':AHeap):Prop:=∀ x o,H x=some o→H' x=some o
theorem Ext.refl (H:AHeap):Ext H H:=λx_ x_ h=>h
theorem Ext.trans {H H' H'':AHeap}(a:Ext H H')(b:Ext H' H''):Ext H H'':=λx o h=>b x o (a x o h)
theorem Ext.new {H:AHeap}{a:Nat}{o:AObj}(h:H a=none):Ext H (upd H a o):=λx o' hx=>by
 rw[upd_ne];exact hx
 rintro rfl;rw[h] at hx;exact nomatch hx
theorem Ext.set {H H':AHeap}{a:Nat}{o:AObj}(e:Ext H H')(h:H a=none):Ext H (upd H' a o):=λx o' hx=>by
 rw[upd_ne];exact e x o' hx
 rintro rfl;rw[h] at hx;exact nomatch hx
theorem BodyAt.ext {H H':AHeap} {ly P E}(b:BodyAt H ly P E)(e:Ext H H'):BodyAt H' ly P E:=λi h0 h1=>⟨e _ _ (b i h0 h1).1,e _ _ (b i h0 h1).2⟩
theorem blks_ix {H:AHeap}{ly:Lay}{i:Int}(h0:0≤i)(h1:i < 4):getIx H (blksV ly) (.int i)=some (.ref (ly.b i)):=by
 rcases i4 h0 h1 with rfl|rfl|rfl|rfl<;>rfl
theorem followers_at (n:Nat){H:AHeap} {ly P E br i}{Q:AV→AHeap→Prop}(hB:BodyAt H ly P E)(hS:Shape br E)(h0:0≤i)(h1:i < 4)(h:Q (.lst ((succS br i).map .int)) H):Cn tabP (n+1) 0 [.ref (ly.b i)] H Q:=by
 obtain⟨hb,hd⟩:=hB i h0 h1
 exact followers_ok n hb hd (by refine rwI (hS i h0 h1) ?_;exact h)
structure PFr where
 num:Int
 su:List Int
 ix:Nat
structure PSt where
 found:List Int
 seen:ISet
 stk:List PFr
noncomputable def pst (S:Int→List Int) (s:PSt):PSt:=match s.stk with
 |[]=>s
 |f::r=>match decide (f.ix=f.su.length) with
  |true=>⟨s.found++[f.num],s.seen,r⟩
  |false=>match s.seen (f.su.getD f.ix 0) with
   |true=>⟨s.found,s.seen,⟨f.num,f.su,f.ix+1⟩::r⟩
   |false=>⟨s.found,λj=>s.seen j||j==f.su.getD f.ix 0,⟨f.su.getD f.ix 0,S (f.su.getD f.ix 0),0⟩::⟨f.num,f.su,f.ix+1⟩::r⟩
noncomputable def prun (S:Int→List Int):Nat→PSt→Option (List Int):=@λy_1=>@λy_2=>match @y_1,@y_2 with
 |0,s=>match s.stk with|[]=>some s.found|_=>none
 |n+1,s=>match s.stk with|[]=>some s.found|_=>prun S n (pst S s)
noncomputable def p0 (S:Int→List Int):PSt:=⟨[],λj=>j==0,[⟨0,S 0,0⟩]⟩
theorem prun_eq (br:Bool):prun (succS br) 20 (p0 (succS br))=some [3,2,1,0]:=by cases br<;>rfl
noncomputable def frV (f:PFr):AObj:=.list [.int f.num,.lst (f.su.map .int),.int f.ix]
theorem Ext.none {H H':AHeap}{a:Nat}(e:Ext H H')(h:H' a=none):H a=none:=by
 cases q:H a with
 |none=>rfl
 |some o=>exact none_some (h.symm.trans (e _ _ q))
theorem new_ne {a b:Nat}{G:AHeap}{o:AObj}(h:upd G a o b=none):b≠a∧G b=none:=
 have n:b≠a:=λe=>by subst e;rw[upd_self] at h;exact none_some h.symm
 ⟨n,(upd_ne _ n).symm.trans h⟩
structure PH (H G:AHeap)(fo se st:Nat)(fs:List (Nat×PFr))(found:List Int)(seen:ISet):Prop where
 ex:Ext H G
 hfo:H fo=none
 hse:H se=none
 hst:H st=none
 gfo:G fo=some (.list (found.map .int))
 gse:G se=some (.set seen)
 gst:G st=some (.list (fs.reverse.map λp=>.ref p.1))
 gfr:∀ p∈fs,G p.1=some (frV p.2)
 nd:(fs.map (·.1)).Nodup
 new:∀ p∈fs,H p.1=none∧p.1≠fo∧p.1≠st
 nfs:fo≠st
structure PP (br:Bool)(fs:List PFr)(found:List Int)(seen:ISet)(k:Nat):Prop where
 run:prun (succS br) k ⟨found,seen,fs⟩=some [3,2,1,0]
 l1:found.length+k≤20
 l2:fs.length+k≤21
 ok:∀ f∈fs,f.ix≤f.su.length∧∀ x∈f.su,0≤x∧x < 4
noncomputable def PFr.up (f:PFr):PFr:=⟨f.num,f.su,f.ix+1⟩
section
variable {H G:AHeap}{fo se st a x:Nat}{fs:List (Nat×PFr)}{found:List Int}{seen:ISet}{f:PFr}{br:Bool}{k:Nat}{r:List PFr}
theorem nl_set {l:List AV}{m:ISet}:AObj.set m≠.list l:=nofun
theorem PH.se_ne (P:PH H G fo se st fs found seen){b:Nat}{l:List AV}(h:G b=some (.list l)):se≠b:=ne_of_objs P.gse h nl_set
theorem PH.pop (P:PH H G fo se st ((a,f)::fs) found seen)(hl:found.length≤1000)(hl2:fs.length≤1000){Q:AV→AHeap→Prop}(q:∀ v G,PH H G fo se st fs (found++[f.num]) seen→Q v G) :
  opAppend G (.ref fo) (.int f.num) λx_ G=>isLi G (.ref st)∧opPop G (.ref st) Q:=by
 refine app_j P.gfo (by refine rwI (List.length_map ..) ?_;lia) (pop_i (xs:=fs.reverse.map λp=>.ref p.1) (x:=.ref a) ?_ (by (refine rwI (List.length_map ..) ?_;refine rwI List.length_reverse ?_);lia) (q _ _ ⟨(P.ex.set P.hfo).set P.hst,P.hfo,P.hse,P.hst,?_,?_,upd_self ..,λp hp=>?_,(List.nodup_cons.mp P.nd).2,λp hp=>P.new p (.tail _ hp),P.nfs⟩))
 ·(refine rwI (upd_ne _ P.nfs.symm) ?_;refine rwI P.gst ?_;refine rwI List.reverse_cons ?_;refine rwI List.map_append ?_);rfl
 ·(refine rwI (upd_ne _ P.nfs) ?_;refine rwI (upd_self ..) ?_;refine rwI List.map_append ?_);rfl
 ·exact (upd_ne _ (P.se_ne P.gst)).trans ((upd_ne _ (P.se_ne P.gfo)).trans P.gse)
 ·have n:=P.new p (.tail _ hp)
  exact (upd_ne _ n.2.2).trans ((upd_ne _ n.2.1).trans (P.gfr p (.tail _ hp)))
theorem PH.inc (P:PH H G fo se st ((a,f)::fs) found seen){Q:AHeap→Prop}(q:∀ G,PH H G fo se st ((a,f.up)::fs) found seen→Q G):opSetI G (.ref a) (.int 2) (.int (f.ix+1)) Q:=by
 have n:=P.new _ (.head _)
 refine setl_i (P.gfr _ (.head _)) (by decide) (show (2:Int) < 3 by decide) (show 3≤100000 by decide) (q (upd G a (frV f.up)) ⟨P.ex.set n.1,P.hfo,P.hse,P.hst,(upd_ne _ n.2.1.symm).trans P.gfo,(upd_ne _ (P.se_ne (P.gfr _ (.head _)))).trans P.gse,(upd_ne _ n.2.2.symm).trans (P.gst.trans (by (refine rwI List.reverse_cons ?_;refine rwI List.reverse_cons ?_;refine rwI List.map_append ?_;refine rwI List.map_append ?_);rfl)),λp hp=>?_,P.nd,λp hp=>?_,P.nfs⟩)
 ·rcases List.mem_cons.mp hp with e|hp
  ·refine rwI e ?_;exact upd_self ..
  ·exact (upd_ne _ λe:p.1=a=>(List.nodup_cons.mp P.nd).1 (List.mem_map.mpr ⟨p,hp,e⟩)).trans (P.gfr p (.tail _ hp))
 ·rcases List.mem_cons.mp hp with e|hp
  ·refine rwI e ?_;exact n
  ·exact P.new p (.tail _ hp)
theorem PH.see (P:PH H G fo se st fs found seen){x:Int}(h0:0≤x)(h1:x < 32){Q:AV→AHeap→Prop}(q:∀ G,PH H G fo se st fs found (λj=>seen j||j==x)→Q .none G):isSe G (.ref se)∧opAdd G (.ref se) (.int x) Q:=
 add_i P.gse h0 h1 (q _ ⟨P.ex.set P.hse,P.hfo,P.hse,P.hst,(upd_ne _ (P.se_ne P.gfo).symm).trans P.gfo,upd_self ..,(upd_ne _ (P.se_ne P.gst).symm).trans P.gst,λp hp=>(upd_ne _ (P.se_ne (P.gfr p hp)).symm).trans (P.gfr p hp),P.nd,P.new,P.nfs⟩)
theorem PH.push (P:PH H G fo se st fs found seen)(ha:G a=none)(hl:fs.length≤1000){Q:AV→AHeap→Prop}(q:∀ G,PH H G fo se st ((a,f)::fs) found seen→Q .none G):opAppend (upd G a (frV f)) (.ref st) (.ref a) Q:=by
 have na:∀ {y o},G y=some o→y≠a:=λh e=>none_some (ha.symm.trans (e ▸ h))
 refine app_j ((upd_ne _ (na P.gst)).trans P.gst) (by (refine rwI (List.length_map ..) ?_;refine rwI List.length_reverse ?_);lia) (q _ ⟨(P.ex.trans (Ext.new ha)).set P.hst,P.hfo,P.hse,P.hst,(upd_ne _ P.nfs).trans ((upd_ne _ (na P.gfo)).trans P.gfo),(upd_ne _ (P.se_ne P.gst)).trans ((upd_ne _ (na P.gse)).trans P.gse),?_,λp hp=>?_,?_,λp hp=>?_,P.nfs⟩)
 ·(refine rwI (upd_self ..) ?_;refine rwI List.reverse_cons ?_;refine rwI List.map_append ?_);rfl
 ·rcases List.mem_cons.mp hp with e|hp
  ·refine rwI e ?_;exact (upd_ne _ (na P.gst).symm).trans (upd_self ..)
  ·exact (upd_ne _ (P.new p hp).2.2).trans ((upd_ne _ (na (P.gfr p hp))).trans (P.gfr p hp))
 ·refine List.nodup_cons.mpr ⟨λh=>?_,P.nd⟩
  obtain⟨p,hp,e⟩:=List.mem_map.mp h
  exact na (P.gfr p hp) e
 ·rcases List.mem_cons.mp hp with e|hp
  ·refine rwI e ?_;exact⟨P.ex.none ha,(na P.gfo).symm,(na P.gst).symm⟩
  ·exact P.new p hp
theorem PP.fin (P:PP br [] found seen k):found=[3,2,1,0]:=by
 have:=P.run
 cases k<;>exact Option.some.inj this
theorem PP.succ (P:PP br (f::r) found seen k):∃ j,k=j+1:=by
 cases k with
 |zero=>exact none_some P.run
 |succ j=>exact⟨j,rfl⟩
theorem PP.pop (P:PP br (f::r) found seen (k+1))(h:f.ix=f.su.length):PP br r (found++[f.num]) seen k:=by
 have hp:pst (succS br) ⟨found,seen,f::r⟩=⟨found++[f.num],seen,r⟩:=by simp only[pst,decide_eq_true h]
 have hr:prun (succS br) k (pst (succS br) ⟨found,seen,f::r⟩)=_:=P.run
 rw[hp] at hr
 refine⟨hr,?_,Nat.le_trans (Nat.add_le_add_left (Nat.le_succ k) _) (Nat.le_trans (Nat.add_le_add_right (Nat.le_succ _) _) P.l2),λg hg=>P.ok g (.tail _ hg)⟩
 (refine rwI List.length_append ?_;refine rwI List.length_singleton ?_;refine rwI (Nat.add_right_comm ..) ?_);exact P.l1
set_option tactic.hygienic true in
theorem PP.next (P:PP br (f::r) found seen (k+1))(h:f.ix≠f.su.length):∃ x,f.su[f.ix]? = some x∧(0≤x∧x < 4)∧(seen x=true→PP br (f.up::r) found seen k)∧(seen x=false→PP br (⟨x,succS br x,0⟩::f.up::r) found (λj=>seen j||j==x) k):=by
 have hix:f.ix < f.su.length:=Nat.lt_of_le_of_ne (P.ok f (.head _)).1 h
 have hxs:f.su[f.ix]? = some f.su[f.ix]:=List.getElem?_eq_getElem hix
 generalize f.su[f.ix]=x at hxs
 have hgd:f.su.getD f.ix 0=x:=by (refine rwI (List.getD_eq_getElem?_getD) ?_;refine rwI hxs ?_);rfl
 have hr:prun (succS br) k (pst (succS br) ⟨found,seen,f::r⟩)=_:=P.run
 have l1:=P.l1
 have l2:=P.l2
 rw[List.length_cons] at l2
 have okf:∀ g∈f.up::r,g.ix≤g.su.length∧∀ x∈g.su,0≤x∧x < 4:=λg hg=>(List.mem_cons.mp hg).elim (λe=>e ▸ ⟨hix,(P.ok f (.head _)).2⟩) λhg=>P.ok g (.tail _ hg)
 refine⟨x,hxs,(P.ok f (.head _)).2 x (List.mem_of_getElem? hxs),λhs=>⟨?_,by lia,by refine rwI List.length_cons ?_;lia,okf⟩,λhs=>⟨?_,by lia,by (refine rwI List.length_cons ?_;refine rwI List.length_cons ?_);lia,λg hg=>(List.mem_cons.mp hg).elim (λe=>e ▸ ⟨Nat.zero_le _,λx hx=>succS_in hx⟩) (okf g)⟩⟩
 ·refine rwS hr ?_;simp only[pst,decide_eq_false h,hgd,hs];rfl
 ·refine rwS hr ?_;simp only[pst,decide_eq_false h,hgd,hs];rfl
end
set_option tactic.hygienic true in
theorem postorder_ok (n:Nat){H:AHeap} {ly P E br}{Q:AV→AHeap→Prop}(hB:BodyAt H ly P E)(hS:Shape br E)(h:∀ w H',Ext H H'→H' w=some (.list [.int 3,.int 2,.int 1,.int 0])→H w=none→Q (.ref w) H') :
  Cn tabP (n+2) 13 [bodyV ly] H Q:=by
 refine enter rfl rfl ?_
 intro fo hfo
 refine And.intro (by decide) (And.intro (by decide) λse hse=>?_)
 have e1:=Ext.new (o:=.list []) hfo
 have e2:=e1.trans (Ext.new (o:=.set λj=>j==0) hse)
 refine followers_at n (i:=0) (hB.ext e2) hS (by decide) (by decide) ?_
 intro f0 hf0
 intro st hst
 have e3:=e2.trans (Ext.new (o:=frV ⟨0,succS br 0,0⟩) hf0)
 have n1:=(new_ne hse).1
 have a1:=new_ne hf0
 have a2:=new_ne hst
 have b2:=new_ne a2.2
 have H0:PH H (upd (upd (upd (upd H fo (.list [])) se (.set λj=>j==0)) f0 (frV ⟨0,succS br 0,0⟩)) st (.list [.ref f0])) fo se st [(f0,⟨0,succS br 0,0⟩)] [] λj=>j==0:=
  ⟨e3.trans (Ext.new hst),hfo,e1.none hse,e3.none hst,(upd_ne _ (new_ne b2.2).1.symm).trans ((upd_ne _ (new_ne a1.2).1.symm).trans ((upd_ne _ n1.symm).trans (upd_self ..))),(upd_ne _ b2.1.symm).trans ((upd_ne _ a1.1.symm).trans (upd_self ..)),upd_self ..,λp hp=>mem1 hp ▸ (upd_ne _ a2.1.symm).trans (upd_self ..),List.Pairwise.cons (λx_ h=>nomatch h) .nil,λp hp=>mem1 hp ▸ ⟨e2.none hf0,(new_ne a1.2).1,a2.1.symm⟩,(new_ne b2.2).1.symm⟩
 refine whl_I (λk ρ H'=>Ex5 λ(fs:List (Nat×PFr)) found seen j4 j5=>And3 (ρ=[some (bodyV ly),some (.ref fo),some (.ref se),some (.ref st),j4,j5]) (PH H H' fo se st fs found seen) (PP br (fs.map Prod.snd) found seen k)) 20
  ⟨_,_,_,none,none,rfl,H0,prun_eq br,Nat.le_refl _,Nat.le_refl _,λf hf=>mem1 hf ▸ ⟨Nat.zero_le _,λx hx=>succS_in (br:=br) (i:=0) hx⟩⟩ ?_
 clear H0 hse hf0 hst e1 e2 e3 n1 a1 a2 b2
 rintro k ρ G K K1 K2 K3 ⟨fs,found,seen,j4,j5,rfl,R,P⟩
 apply ok_mk (truth_list R.gst)
 cases fs with
 |nil=>exact h fo G R.ex (R.gfo.trans (by refine rwI P.fin ?_;rfl)) hfo
 |cons p fs=>
  obtain⟨a,f⟩:=p
  obtain⟨k,rfl⟩:=P.succ
  clear h hfo
  have ha:=R.gfr _ (.head _)
  have a2:getIx G (.ref a) (.int 2)=some (.int f.ix):=getIx_list _ ha
  have a1:getIx G (.ref a) (.int 1)=some (.lst (f.su.map .int)):=getIx_list _ ha
  refine yes (by (refine rwI List.reverse_cons ?_;refine rwI List.map_append ?_);cases (fs.reverse.map λp=>AV.ref p.1)<;>rfl) ?_
  apply ok_mk ((getIx_list _ R.gst).trans (by (refine rwI List.reverse_cons ?_;refine rwI List.map_append ?_);exact List.getLast?_concat):getIx G (.ref st) (.int (-1))=some (.ref a))
  apply ok_mk a2
  apply ok_mk a1
  have hdec:((f.ix:Int)==((f.su.map AV.int).length:Int))=decide (f.ix=f.su.length):=by
   (refine rwI (List.length_map ..) ?_;refine rwI (propext Bool.eq_iff_iff) ?_;refine rwI (propext beq_iff_eq) ?_;refine rwI (propext decide_eq_true_iff) ?_);exact Int.natCast_inj
  have l1:=P.l1
  have l2:=P.l2
  rw[List.length_map,List.length_cons] at l2
  refine bcase (b:=decide (f.ix=f.su.length)) (λhx=>?_) λhx=>?_
  ·apply no (hdec.trans hx)
   obtain⟨x,hxs,hx4,s1,s2⟩:=P.next (of_decide_eq_false hx)
   clear P
   apply ok_mk a1
   apply ok_mk a2
   apply ok_mk (show getIx G (.lst (f.su.map .int)) (.int f.ix)=some (.int x) from atIx_nat (by (refine rwI (List.getElem?_map) ?_;refine rwI hxs ?_);rfl))
   apply ok_mk a2
   refine R.inc λG2 R2=>?_
   apply ok_mk (opNotin_set R2.gse)
   refine bcase (b:=seen x) (λhs=>?_) λhs=>?_
   ·apply yes (notf hs)
    refine R2.see hx4.1 (by lia) λG3 R3=>?_
    refine And.intro ⟨st,_,rfl,R3.gst⟩ ?_
    apply ok_mk (blks_ix hx4.1 hx4.2)
    refine followers_at n (hB.ext R3.ex) hS hx4.1 hx4.2 ?_
    intro fn hfn
    exact R3.push (f:=⟨x,succS br x,0⟩) hfn (by refine rwI List.length_cons ?_;lia) λG4 R4=>K1 k _ _ (Nat.lt_succ_self _) ⟨_,_,_,_,_,rfl,R4,s2 hs⟩
   ·apply no (nott hs)
    exact K1 k _ _ (Nat.lt_succ_self _) ⟨_,_,_,_,_,rfl,R2,s1 hs⟩
  ·apply yes (hdec.trans hx)
   refine And.intro ⟨fo,_,rfl,R.gfo⟩ ?_
   apply ok_mk (getIx_list _ ha:getIx G (.ref a) (.int 0)=some (.int f.num))
   exact R.pop (by lia) (by lia) λv G2 R2=>K2 k _ _ (Nat.lt_succ_self _) ⟨_,_,_,_,_,rfl,R2,P.pop (of_decide_eq_true hx)⟩
noncomputable def addP (i:Int) (pr:Int→List Int) (j:Int):Int→List Int:=λx=>if x=j then (match (pr j).contains i with|true=>pr j|false=>pr j++[i]) else pr x
noncomputable def predsR (S:Int→List Int):Int→List Int:=([0,1,2,3]:List Int).foldl (λpr i=>(S i).foldl (addP i) pr) (λx_=>[])
noncomputable def predsS (br:Bool) (j:Int):List Int:=if j=1 then [0,2] else if j=2 then [1] else if j=3 then (match br with|true=>[1,2]|false=>[2]) else []
theorem predsR_eq (br:Bool){j:Int}(h0:0≤j)(h1:j < 4):predsR (succS br) j=predsS br j:=by
 rcases i4 h0 h1 with rfl|rfl|rfl|rfl<;>cases br<;>rfl
theorem succS_len (br:Bool)(i:Int):(succS br i).length≤2:=by
 unfold succS
 split
 ·decide
 ·split
  ·cases br<;>decide
  ·split<;>decide
structure PrAt (H:AHeap)(f:Nat)(q:Int→Nat)(pr:Int→List Int):Prop where
 l:H f=some (.list ([.ref (q 0),.ref (q 1),.ref (q 2),.ref (q 3)]))
 e:∀ i,0≤i→i < 4→H (q i)=some (.list ((pr i).map .int))
theorem anyEq_ints (i:Int)(l:List Int):anyEq (.int i) (l.map .int)=some (l.contains i):=by
 unfold anyEq
 have h1:(l.map AV.int).all (plainD 20)=true:=by
  (refine rwI List.all_map ?_;refine rwI (propext List.all_eq_true) ?_);intro x _;rfl
 have h2:(l.map AV.int).any (λy=>veq y (.int i))=l.contains i:=by
  (refine rwI List.any_map ?_;refine rwI List.contains_eq_any_beq ?_)
  congr 1;funext x
  refine (?_:(x==i)=(i==x))
  (refine rwI Bool.beq_comm ?_;rfl)
 (refine rwI h1 ?_;refine rwI h2 ?_)
 rfl
theorem opNotin_list {H:AHeap}{a:Nat}{i:Int}{l:List Int}(h:H a=some (.list (l.map .int))):opCm H .notin (.int i) (.ref a)=some (!(l.contains i)):=by
 refine (?_:(opIn H (.int i) (.ref a)).map (!·)=_)
 (refine rwI (show opIn H (.int i) (.ref a)=anyEq (.int i) (l.map .int) from congrArg (opInO (.int i)) h) ?_;refine rwI (anyEq_ints ..) ?_);rfl
structure PQ (H G:AHeap)(f:Nat)(q:Int→Nat)(pr:Int→List Int):Prop where
 ex:Ext H G
 hf:H f=none
 hq:∀ i,0≤i→i < 4→q i≠f∧H (q i)=none
 inj:∀ i j,0≤i→i < 4→0≤j→j < 4→i≠j→q i≠q j
 R:PrAt G f q pr
theorem PQ.new {H:AHeap}{q0 q1 q2 q3 f:Nat}(h0:H q0=none)(h1:upd H q0 (.list []) q1=none)(h2:upd (upd H q0 (.list [])) q1 (.list []) q2=none)(h3:upd (upd (upd H q0 (.list [])) q1 (.list [])) q2 (.list []) q3=none)
  (hf:upd (upd (upd (upd H q0 (.list [])) q1 (.list [])) q2 (.list [])) q3 (.list []) f=none):PQ H (upd (upd (upd (upd (upd H q0 (.list [])) q1 (.list [])) q2 (.list [])) q3 (.list [])) f (.list [.ref q0,.ref q1,.ref q2,.ref q3])) f (pick4 q0 q1 q2 q3) λx_=>[]:=by
 have a1:=new_ne h1
 have a2:=new_ne h2
 have b2:=new_ne a2.2
 have a3:=new_ne h3
 have b3:=new_ne a3.2
 have c3:=new_ne b3.2
 have af:=new_ne hf
 have bf:=new_ne af.2
 have cf:=new_ne bf.2
 have df:=new_ne cf.2
 refine⟨((((Ext.new h0).trans (Ext.new h1)).trans (Ext.new h2)).trans (Ext.new h3)).trans (Ext.new hf),df.2,all4 ⟨df.1.symm,h0⟩ ⟨cf.1.symm,a1.2⟩ ⟨bf.1.symm,b2.2⟩ ⟨af.1.symm,c3.2⟩,?_,upd_self ..,all4 ?_ ?_ ?_ ?_⟩
 ·have z:∀ {x:Nat} {i:Int},i≠i→x≠x:=λh=>(h rfl).elim
  refine λi j a b=>all4 (P:=λi=>∀ j,0≤j→j < 4→i≠j→pick4 q0 q1 q2 q3 i≠pick4 q0 q1 q2 q3 j) ?_ ?_ ?_ ?_ i a b j
  ·exact all4 (λh=>z h) (λx_=>a1.1.symm) (λx_=>b2.1.symm) λx_=>c3.1.symm
  ·exact all4 (λx_=>a1.1) (λh=>z h) (λx_=>a2.1.symm) λx_=>b3.1.symm
  ·exact all4 (λx_=>b2.1) (λx_=>a2.1) (λh=>z h) λx_=>a3.1.symm
  ·exact all4 (λx_=>c3.1) (λx_=>b3.1) (λx_=>a3.1) λh=>z h
 ·exact (upd_ne _ df.1.symm).trans ((upd_ne _ c3.1.symm).trans ((upd_ne _ b2.1.symm).trans ((upd_ne _ a1.1.symm).trans (upd_self ..))))
 ·exact (upd_ne _ cf.1.symm).trans ((upd_ne _ b3.1.symm).trans ((upd_ne _ a2.1.symm).trans (upd_self ..)))
 ·exact (upd_ne _ bf.1.symm).trans ((upd_ne _ a3.1.symm).trans (upd_self ..))
 ·exact (upd_ne _ af.1.symm).trans (upd_self ..)
section
variable {H G:AHeap}{f:Nat}{q:Int→Nat}{pr:Int→List Int}{i j:Int}
theorem PQ.ix (S:PQ H G f q pr)(j0:0≤j)(j1:j < 4):getIx G (.ref f) (.int j)=some (.ref (q j)):=by
 refine rwI (getIx_list _ S.R.l) ?_
 rcases i4 j0 j1 with rfl|rfl|rfl|rfl<;>rfl
theorem addP_self (h:(pr j).contains i=false):addP i pr j j=pr j++[i]:=by unfold addP;(refine rwI (if_pos rfl) ?_;refine rwI h ?_;rfl)
theorem addP_ne {x:Int}(h:x≠j):addP i pr j x=pr x:=if_neg h
theorem addP_has (h:(pr j).contains i=true):addP i pr j=pr:=funext λx=>by
 by_cases e:x=j
 ·unfold addP;(refine rwI (if_pos e) ?_;refine rwI e ?_;refine rwI h ?_;rfl)
 ·exact addP_ne e
theorem PQ.app (S:PQ H G f q pr)(j0:0≤j)(j1:j < 4)(hc:(pr j).contains i=false)(hl:(pr j).length≤1000){Q:AV→AHeap→Prop}(k:∀ G,PQ H G f q (addP i pr j)→Q .none G):opAppend G (.ref (q j)) (.int i) Q:=by
 refine app_j (S.R.e j j0 j1) (by refine rwI (List.length_map ..) ?_;lia) (k _ ⟨S.ex.set (S.hq j j0 j1).2,S.hf,S.hq,S.inj,(upd_ne _ (S.hq j j0 j1).1.symm).trans S.R.l,λx x0 x1=>?_⟩)
 by_cases e:x=j
 ·(refine rwI e ?_;refine rwI (upd_self ..) ?_;refine rwI (addP_self hc) ?_;refine rwI List.map_append ?_);rfl
 ·(refine rwI (upd_ne _ (S.inj x j x0 x1 j0 j1 e)) ?_;refine rwI (addP_ne e) ?_);exact S.R.e x x0 x1
end
theorem addP_len {pr:Int→List Int}{i j:Int}{m n:Nat}(h:∀ x,(pr x).length+m+(n+1)≤8)(x:Int):(addP i pr j x).length+m+n≤8:=by
 have:=h x
 by_cases e:x=j
 ·rw[e] at this ⊢
  refine bcase (b:=(pr j).contains i) (λhc=>?_) λhc=>?_
  ·(refine rwI (addP_self hc) ?_;refine rwI List.length_append ?_;refine rwI List.length_singleton ?_);lia
  ·refine rwI (addP_has hc) ?_;lia
 ·refine rwI (addP_ne e) ?_;lia
theorem preds_ok (n:Nat){H:AHeap} {ly P E br}{Q:AV→AHeap→Prop}(hB:BodyAt H ly P E)(hS:Shape br E)
  (h:∀ f q H',Ext H H'→H f=none→(∀ i,0≤i→i < 4→H (q i)=none)→PrAt H' f q (predsS br)→Q (.ref f) H') :
  Cn tabP (n+2) 12 [bodyV ly] H Q:=by
 refine enter rfl rfl ?_
 intro q0 h0
 refine And.intro trivial λq1 h1=>And.intro trivial λq2 h2=>And.intro trivial λq3 h3=>And.intro trivial λf hf=>?_
 have S0:=PQ.new h0 h1 h2 h3 hf
 generalize pick4 q0 q1 q2 q3=q at S0
 refine forL_mapE (l:=[0,1,2,3]) (λi=>AV.ref (ly.b i)) (λl ρ H'=>Ex3 λpr j2 j3=>And5 (∀ i∈l,0≤i∧i < 4) (ρ=[some (bodyV ly),some (.ref f),j2,j3]) (PQ H H' f q pr) (l.foldl (λpr i=>(succS br i).foldl (addP i) pr) pr=predsR (succS br)) (∀ j,(pr j).length+2 * l.length≤8)) rfl
   ⟨λx_=>[],_,_,by decide,rfl,S0,rfl,λj=>Nat.le_refl _⟩ ?_ ?_
 ·clear h S0 h0 h1 h2 h3 hf
  rintro i l ρ H' K K1 K2 K3 ⟨pr,j2,j3,hl,rfl,S,hp,hn⟩
  obtain⟨i0,i1⟩:=hl i (.head _)
  refine followers_at n (hB.ext S.ex) hS i0 i1 ?_
  refine forL_map AV.int (λl2 ρ H'=>Ex2 λpr2 j3=>And5 (∀ j∈l2,0≤j∧j < 4) (ρ=[some (bodyV ly),some (.ref f),some (.ref (ly.b i)),j3]) (PQ H H' f q pr2) (l2.foldl (addP i) pr2=(succS br i).foldl (addP i) pr) (∀ j,(pr2 j).length+2 * l.length+l2.length≤8)) ?_ ?_ _ _ _ ⟨pr,_,λj hj=>succS_in hj,rfl,S,rfl,λj=>by
    have a1:=hn j
    have a2:=succS_len br i
    rw[List.length_cons] at a1;lia⟩
  ·clear K1 K2 K3 S hp hn hl
   rintro j l2 ρ H2 K' K1' K2' K3' ⟨pr2,j3,hl2,rfl,S,hp2,hn2⟩
   obtain⟨hj0,hj1⟩:=hl2 j (.head _)
   have hB2:=hB.ext S.ex i i0 i1
   have en:attrOf H2 1 0 (.ref (ly.b i))=some (.int i):=blk_attr 0 hB2.1 hB2.2
   apply ok_mk en
   apply ok_mk (S.ix hj0 hj1)
   apply ok_mk (opNotin_list (S.R.e j hj0 hj1))
   have hp3:l2.foldl (addP i) (addP i pr2 j)=(succS br i).foldl (addP i) pr:=hp2
   have fin:=λG S=>K1' _ G trivial ⟨addP i pr2 j,some (.int j),λj hj=>hl2 j (.tail _ hj),rfl,S,hp3,addP_len hn2⟩
   cases hc:(pr2 j).contains i with
   |true=>exact fin _ (by refine rwI (addP_has hc) ?_;exact S)
   |false=>
    apply ok_mk (S.ix hj0 hj1)
    refine And.intro ⟨q j,_,rfl,S.R.e j hj0 hj1⟩ ?_
    apply ok_mk en
    exact S.app hj0 hj1 hc (by have:=hn2 j;rw[List.length_cons] at this;lia) fin
  ·clear S
   rintro ρ H2 ⟨pr2,j3,_,rfl,S,hp2,hn2⟩
   exact K1 _ _ trivial ⟨pr2,_,_,λj hj=>hl j (.tail _ hj),rfl,S,(show pr2=_ from hp2) ▸ hp,hn2⟩
 ·clear S0 h0 h1 h2 h3 hf
  rintro ρ H' ⟨pr,j2,j3,_,rfl,S,hp,_⟩
  exact h f q H' S.ex S.hf (λi a b=>(S.hq i a b).2) ⟨S.R.l,λi a b=>by (refine rwS (predsR_eq br a b) ?_;refine rwS (show pr=_ from hp) ?_);exact S.R.e i a b⟩
noncomputable def Le (m m':ISet):Prop:=∀ r,m r=true→m' r=true
theorem Le.refl (m:ISet):Le m m:=λx_ h=>h
theorem Le.trans {a b c:ISet}(x:Le a b)(y:Le b c):Le a c:=λr h=>y r (x r h)
theorem uses_mono {l:List Opd}{m m':ISet}(h:Le m m'):Le (uses l m) (uses l m'):=λr hr=>by
 simp only[uses,Bool.or_eq_true] at hr ⊢
 exact hr.imp (h r) id
theorem le_uses (l:List Opd)(m:ISet):Le m (uses l m):=λr hr=>by simp only[uses,hr,Bool.true_or]
theorem liveStep_mono {A:Adr}{r:Row}{m m':ISet}(h:Le m m'):Le (liveStep A r m) (liveStep A r m'):=by
 unfold liveStep
 cases h1:m r.dst with
 |true=>
  refine rwI (h _ h1) ?_
  exact uses_mono λx hx=>by simp only[Bool.and_eq_true] at hx ⊢;exact⟨h _ hx.1,hx.2⟩
 |false=>
  have key:Le m (uses r.args λj=>m' j&&j != r.dst):=λx hx=>by
   refine le_uses _ _ x ?_
   simp only[Bool.and_eq_true,h x hx,true_and,bne_iff_ne,ne_eq]
   rintro rfl;rw[h1] at hx;cases hx
  cases h2:m' r.dst with
  |true=>
   cases isFree A r with
   |true=>exact key
   |false=>
    intro x hx
    simp only[uses,Bool.or_eq_true] at hx
    rcases hx with hx|hx
    ·exact key x hx
    ·simp[uses] at hx ⊢;exact .inr hx
  |false=>
   cases isFree A r with
   |true=>exact h
   |false=>exact uses_mono h
theorem liveRows_mono {A:Adr}:∀ {l:List Row}{m m':ISet},Le m m'→Le (liveRows A l m) (liveRows A l m'):=@λy_1=>@λy_2=>@λy_3=>@λy_4=>match @y_1,@y_2,@y_3,@y_4 with
 |[],x_1,x_2,h=>h
 |r::l,m,m',h=>liveStep_mono (liveRows_mono (l:=l) h)
theorem behind_mono {L L':Int→ISet}{x:End}(h:∀ j,Le (L j) (L' j)):Le (behind L x) (behind L' x):=λr hr=>by
 simp only[behind,List.any_eq_true] at hr ⊢
 obtain⟨j,hj,e⟩:=hr
 exact⟨j,hj,h j r e⟩
noncomputable def liveF (A:Adr) (P:Prg) (E:Ens) (L:Int→ISet) (i:Int):ISet:=liveRows A ((P i).map (·.2)) (uses (E i).args (behind L (E i)))
theorem liveF_mono {A P E}{L L':Int→ISet}(h:∀ j,Le (L j) (L' j))(i:Int):Le (liveF A P E L i) (liveF A P E L' i):=liveRows_mono (uses_mono (behind_mono h))
theorem liveF_congr {A P E}{L L':Int→ISet}{i:Int}(h:∀ j∈(E i).succ,L j=L' j):liveF A P E L i=liveF A P E L' i:=by
 have:behind L (E i)=behind L' (E i):=by
  funext r
  simp only[behind]
  have key:∀ l:List Int,(∀ j∈l,L j=L' j)→(l.any λj=>L j r)=l.any λj=>L' j r:=by
   intro l
   induction l with
   |nil=>intro _;rfl
   |cons a l ih=>intro h;(refine rwI List.any_cons ?_;refine rwI List.any_cons ?_;refine rwI (h a (.head _)) ?_;refine rwI (ih λj hj=>h j (.tail _ hj)) ?_;rfl)
  exact key _ h
 unfold liveF;(refine rwI this ?_;rfl)
noncomputable def Used (P:Prg) (E:Ens) (r:Int):Prop:=∃ i,0≤i∧i < 4∧(.r r∈(E i).args∨∃ p∈P i,.r r∈p.2.args)
theorem liveRows_used {A:Adr}{r:Int}:∀ {l:List Row}{m:ISet},liveRows A l m r=true→m r=true∨∃ p∈l,.r r∈p.args:=@λy_1=>@λy_2=>@λy_3=>match @y_1,@y_2,@y_3 with
 |[],m,h=>.inl h
 |p::l,m,h=>by
  have h:liveStep A p (liveRows A l m) r=true:=h
  have ih:=@liveRows_used A r l m
  have key:liveRows A l m r=true∨.r r∈p.args:=by
   unfold liveStep at h
   cases h1:liveRows A l m p.dst with
   |true=>
    rw[h1] at h
    simp only[uses,Bool.or_eq_true,Bool.and_eq_true,List.contains_iff_mem] at h
    exact h.imp And.left id
   |false=>
    rw[h1] at h
    cases h2:isFree A p with
    |true=>rw[h2] at h;exact .inl h
    |false=>rw[h2] at h;simp only[uses,Bool.or_eq_true,List.contains_iff_mem] at h;exact h
  rcases key with h|h
  ·rcases ih h with h|⟨q,hq,hr⟩
   ·exact .inl h
   ·exact .inr ⟨q,.tail _ hq,hr⟩
  ·exact .inr ⟨p,.head _,h⟩
theorem liveF_used {A P E}{L:Int→ISet}{i r:Int}(h0:0≤i)(h1:i < 4)(hL:∀ j r,L j r=true→Used P E r)(h:liveF A P E L i r=true):Used P E r:=by
 rcases liveRows_used h with h|⟨p,hp,hr⟩
 ·simp only[uses,Bool.or_eq_true,List.contains_iff_mem] at h
  rcases h with h|h
  ·simp only[behind,List.any_eq_true] at h
   obtain⟨j,hj,e⟩:=h
   exact hL j r e
  ·exact⟨i,h0,h1,.inl h⟩
 ·obtain⟨q,hq,rfl⟩:=List.mem_map.mp hp
  exact⟨i,h0,h1,.inr ⟨q,hq,hr⟩⟩
noncomputable def card (m:ISet):Nat:=(List.range 21).countP λi=>m (Int.ofNat i)
theorem card_le (m:ISet):card m≤21:=by
 have:=List.countP_le_length (p:=λi=>m (Int.ofNat i)) (l:=List.range 21)
 rwa [List.length_range] at this
theorem countP_lt {α:Type}{p q:α→Bool}:∀ {l:List α},(∀ x∈l,p x=true→q x=true)→(∃ x∈l,p x=false∧q x=true)→l.countP p < l.countP q:=@λy_1=>@λy_2=>@λy_3=>match @y_1,@y_2,@y_3 with
 |[],x_1,⟨x_2,h,x_3⟩=>by cases h
 |a::l,hle,hex=>by
  (refine rwI List.countP_cons ?_;refine rwI List.countP_cons ?_)
  have hmono:=List.countP_mono_left (p:=p) (q:=q) (l:=l) λx hx=>hle x (.tail _ hx)
  obtain⟨x,hx,h1,h2⟩:=hex
  rcases List.mem_cons.mp hx with rfl|hx
  ·(refine rwI h1 ?_;refine rwI h2 ?_);dsimp;lia
  ·have:=countP_lt (p:=p) (q:=q) (l:=l) (λx hx=>hle x (.tail _ hx)) ⟨x,hx,h1,h2⟩
   have:=hle a (.head _)
   cases hp:p a<;>cases hq:q a<;>simp_all<;>lia
theorem card_lt {m m':ISet}(h:Le m m')(hb:∀ r,m' r=true→0≤r∧r < 21)(n:m≠m'):card m < card m':=by
 refine countP_lt (λx x_=>h _) ?_
 have:∃ r,m r≠m' r:=by
  refine Classical.byContradiction λhn=>n (funext λr=>?_)
  exact Classical.byContradiction λe=>hn ⟨r,e⟩
 obtain⟨r,hr⟩:=this
 have hm:m r=false∧m' r=true:=by
  cases h1:m r with
  |true=>rw[h1,h _ h1] at hr;exact absurd rfl hr
  |false=>
   cases h2:m' r with
   |true=>exact⟨rfl,rfl⟩
   |false=>rw[h1,h2] at hr;exact absurd rfl hr
 obtain⟨b0,b1⟩:=hb r hm.2
 refine⟨r.toNat,List.mem_range.mpr (by lia),?_⟩
 have:Int.ofNat r.toNat=r:=Int.toNat_of_nonneg b0
 refine rwI this ?_;exact hm
noncomputable def esOf (g:Int→AV):List (Int×AV):=[(3,g 3),(2,g 2),(1,g 1),(0,g 0)]
theorem esOf_look (g:Int→AV){i:Int}(h0:0≤i)(h1:i < 4):(esOf g).lookup i=some (g i):=by
 rcases i4 h0 h1 with rfl|rfl|rfl|rfl<;>rfl
theorem opSetI_dict {H:AHeap}{a:Nat}{es:List (Int×AV)}{i:Int}{v:AV}{Q:AHeap→Prop}(h:H a=some (.dict es))(hl:es.length≤100000)(q:Q (upd H a (.dict (putE es i v)))):opSetI H (.ref a) (.int i) v Q:=
 ⟨a,i,rfl,rfl,.inr ⟨es,h,hl,q⟩⟩
theorem keepD {H':AHeap}{a x:Nat}{es:List (Int×AV)}{o:AObj}{n:AObj}(h:H' a=some (.dict es))(hx:H' x=some o)(ho:∀ es,o≠.dict es):upd H' a n x=some o:=
 (upd_ne _ (ne_of_objs hx h (ho es))).trans hx
theorem keepN {H':AHeap}{a x:Nat}{o n:AObj}(h:H' a=none)(hx:H' x=some o):upd H' a n x=some o:=
 (upd_ne _ λe=>none_some (h.symm.trans (e ▸ hx))).trans hx
theorem nd_list {l:List AV}(es:List (Int×AV)):AObj.list l≠.dict es:=nofun
theorem nd_set {m:ISet}(es:List (Int×AV)):AObj.set m≠.dict es:=nofun
theorem nl_dict {l:List AV}{es:List (Int×AV)}:AObj.dict es≠.list l:=nofun
noncomputable def at1 {α:Type} (x:Int) (v:α) (f:Int→α):Int→α:=λj=>if j=x then v else f j
theorem at1_self {α:Type}{x:Int}{v:α}{f:Int→α}:at1 x v f x=v:=if_pos rfl
theorem at1_ne {α:Type}{x i:Int}{v:α}{f:Int→α}(h:i≠x):at1 x v f i=f i:=if_neg h
theorem esOf_at {α:Type}(f:α→AV)(g:Int→α)(v:α){i:Int}(h0:0≤i)(h1:i < 4):putE (esOf λj=>f (g j)) i (f v)=esOf λj=>f (at1 i v g j):=by
 rcases i4 h0 h1 with rfl|rfl|rfl|rfl<;>rfl
theorem set_es {H':AHeap}{a:Nat}{α:Type}{f:α→AV}{g:Int→α}{v:α}{i:Int}{Q:AHeap→Prop}(h:H' a=some (.dict (esOf λj=>f (g j))))(h0:0≤i)(h1:i < 4)(q:Q (upd H' a (.dict (esOf λj=>f (at1 i v g j))))):opSetI H' (.ref a) (.int i) (f v) Q:=
 opSetI_dict h (Nat.le_of_ble_eq_true rfl) (esOf_at f g v h0 h1 ▸ q)
theorem PrAt.mono {H G:AHeap}{f:Nat}{q:Int→Nat}{pr:Int→List Int}(h:PrAt H f q pr)(k:∀ x l,H x=some (.list l)→G x=some (.list l)):PrAt G f q pr:=⟨k _ _ h.l,λi a b=>k _ _ (h.e i a b)⟩
structure NR (H':AHeap)(w f ah iw:Nat)(q:Int→Nat)(br:Bool)(L:Int→ISet)(W:List Int)(fl:Int→Bool)(sA:Int→Nat):Prop where
 gw:H' w=some (.list (W.map .int))
 gp:PrAt H' f q (predsS br)
 ga:H' ah=some (.dict (esOf λi=>.ref (sA i)))
 gi:H' iw=some (.dict (esOf λi=>.bool (fl i)))
 gs:∀ i,0≤i→i < 4→H' (sA i)=some (.set (L i))
 nwf:w≠f
 nwq:∀ i,0≤i→i < 4→w≠q i
 nai:ah≠iw
structure NSt (H H':AHeap)(w f ah iw:Nat)(q:Int→Nat)(br:Bool)(L:Int→ISet)(W:List Int)(fl:Int→Bool)(sA:Int→Nat):Prop where
 ex:Ext H H'
 hw:H w=none
 ha:H ah=none
 hi:H iw=none
 R:NR H' w f ah iw q br L W fl sA
section
variable {H H':AHeap}{w f ah iw:Nat}{q:Int→Nat}{br:Bool}{L:Int→ISet}{W:List Int}{fl:Int→Bool}{sA:Int→Nat}{x:Int}
theorem NSt.flag (S:NSt H H' w f ah iw q br L W fl sA)(h0:0≤x)(h1:x < 4){v:Bool}{Q:AHeap→Prop}(k:∀ G,NSt H G w f ah iw q br L W (at1 x v fl) sA→Q G):opSetI H' (.ref iw) (.int x) (.bool v) Q:=
 have R:=S.R
 have nl:∀ {y l},H' y=some (.list l)→upd H' iw (.dict (esOf λi=>.bool (at1 x v fl i))) y=some (.list l):=λh=>keepD R.gi h nd_list
 set_es R.gi h0 h1 (k _ ⟨S.ex.set S.hi,S.hw,S.ha,S.hi,nl R.gw,R.gp.mono λx_ x_=>nl,(upd_ne _ R.nai).trans R.ga,upd_self ..,λi a b=>keepD R.gi (R.gs i a b) nd_set,R.nwf,R.nwq,R.nai⟩)
theorem NSt.app (S:NSt H H' w f ah iw q br L W fl sA)(hl:W.length≤1000){Q:AV→AHeap→Prop}(k:∀ G,NSt H G w f ah iw q br L (W++[x]) fl sA→Q .none G):isLi H' (.ref w)∧opAppend H' (.ref w) (.int x) Q:=
 have R:=S.R
 have n:∀ {y o},H' y=some o→o≠.list (W.map .int)→upd H' w (.list (W.map .int++[.int x])) y=some o:=λh e=>(upd_ne _ (ne_of_objs h R.gw e)).trans h
 app_i R.gw (by refine rwI (List.length_map ..) ?_;lia) (k _ ⟨S.ex.set S.hw,S.hw,S.ha,S.hi,by (refine rwI (upd_self ..) ?_;refine rwI List.map_append ?_);rfl,⟨(upd_ne _ (Ne.symm R.nwf)).trans R.gp.l,λi a b=>(upd_ne _ (Ne.symm (R.nwq i a b))).trans (R.gp.e i a b)⟩,
  n R.ga nl_dict,n R.gi nl_dict,λi a b=>n (R.gs i a b) nl_set,R.nwf,R.nwq,R.nai⟩)
theorem NSt.fresh (S:NSt H H' w f ah iw q br L W fl sA){a:Nat}{o:AObj}(h:H' a=none):NSt H (upd H' a o) w f ah iw q br L W fl sA:=
 have R:=S.R
 ⟨S.ex.trans (Ext.new h),S.hw,S.ha,S.hi,keepN h R.gw,R.gp.mono λx_ x_=>keepN h,keepN h R.ga,keepN h R.gi,λi x y=>keepN h (R.gs i x y),R.nwf,R.nwq,R.nai⟩
theorem NSt.setA (S:NSt H H' w f ah iw q br L W fl sA)(h0:0≤x)(h1:x < 4){hr:Nat}{m:ISet}(hh:H' hr=some (.set m)){Q:AHeap→Prop}(k:∀ G,NSt H G w f ah iw q br (at1 x m L) W fl (at1 x hr sA)→Q G):opSetI H' (.ref ah) (.int x) (.ref hr) Q:=
 have R:=S.R
 have nl:∀ {y l},H' y=some (.list l)→upd H' ah (.dict (esOf λi=>.ref (at1 x hr sA i))) y=some (.list l):=λh=>keepD R.ga h nd_list
 set_es R.ga h0 h1 (k _ ⟨S.ex.set S.ha,S.hw,S.ha,S.hi,nl R.gw,R.gp.mono λx_ x_=>nl,upd_self ..,(upd_ne _ (Ne.symm R.nai)).trans R.gi,λi a b=>by
  by_cases e:i=x
  ·subst e;(refine rwI at1_self ?_;refine rwI at1_self ?_);exact keepD R.ga hh nd_set
  ·(refine rwI (at1_ne e) ?_;refine rwI (at1_ne e) ?_);exact keepD R.ga (R.gs i a b) nd_set,R.nwf,R.nwq,R.nai⟩)
theorem NSt.prev (S:NSt H H' w f ah iw q br L W fl sA)(h0:0≤x)(h1:x < 4):getIx H' (.ref f) (.int x)=some (.ref (q x)):=by
 refine rwI (getIx_list _ S.R.gp.l) ?_
 rcases i4 h0 h1 with rfl|rfl|rfl|rfl<;>rfl
theorem NSt.live (n:Nat)(S:NSt H H' w f ah iw q br L W fl sA){ly:Lay}{P:Prg}{E:Ens}{ad:Nat}{A:Adr}{Q:AV→AHeap→Prop}(hB:BodyAt H ly P E)(hS:Shape br E)(hA:DictAt H ad A)(hs:SlotsOk A)(hp:∀ i,RowsRegs (P i))(hx:∀ i,RegsOk (E i).args)(h0:0≤x)(h1:x < 4)
  (k:∀ hr G,NSt H G w f ah iw q br L W fl sA→G hr=some (.set (liveF A P E L x))→Q (.ref hr) G):Cn tabP (n+4) 20 [.ref (ly.b x),.ref ah] H' λv G=>Cn tabP (n+4) 19 [bodyV ly,.ref ad,.ref (ly.b x),v] G Q:=by
 have hb:=hB.ext S.ex x h0 h1
 refine need_behind_ok (n+2) hb.1 hb.2 (L:=L) ⟨_,S.R.ga,λj hj=>?_⟩ λhr hhr=>?_
 ·rw[hS x h0 h1] at hj
  have hj:=succS_in hj
  exact⟨_,esOf_look _ hj.1 hj.2,S.R.gs j hj.1 hj.2⟩
 ·have S1:=S.fresh (o:=.set (behind L (E x))) hhr
  refine need_ahead_ok n (keepN hhr hb.1) (keepN hhr hb.2) (upd_self ..) (hA.imp λes h=>⟨S1.ex _ _ h.1,h.2⟩) hs (hp x) (hx x) ?_
  refine rwI (upd_upd ..) ?_
  exact k hr _ (S.fresh hhr) (upd_self ..)
end
theorem predsS_in {br:Bool}{i j:Int}(h0:0≤i)(h1:i < 4)(h:j∈succS br i):i∈predsS br j:=by
 revert j
 refine all4 (P:=λi=>∀ {j},j∈succS br i→i∈predsS br j) ?_ ?_ ?_ ?_ i h0 h1
 ·intro j h;refine rwI (mem1 (h:j∈[1])) ?_;exact .head _
 ·intro j h
  cases br with
  |true=>exact all2 (P:=λj=>(1:Int)∈predsS true j) (h:j∈[2,3]) (by decide) (by decide)
  |false=>refine rwI (mem1 (h:j∈[2])) ?_;decide
 ·intro j h
  cases br with
  |true=>exact all2 (P:=λj=>(2:Int)∈predsS true j) (h:j∈[1,3]) (by decide) (by decide)
  |false=>exact all2 (P:=λj=>(2:Int)∈predsS false j) (h:j∈[1,3]) (by decide) (by decide)
 ·intro j h;exact nomatch h
theorem predsS_r {br:Bool}{i j:Int}(h:j∈predsS br i):0≤j∧j < 4:=by
 unfold predsS at h
 split at h
 ·simp at h;lia
 ·split at h
  ·simp at h;lia
  ·split at h
   ·cases br<;>simp at h<;>lia
   ·simp at h
theorem predsS_len (br:Bool)(i:Int):(predsS br i).length≤2:=by
 unfold predsS
 split
 ·decide
 ·split
  ·decide
  ·split
   ·cases br<;>decide
   ·decide
noncomputable def cards (L:Int→ISet):Nat:=card (L 0)+card (L 1)+card (L 2)+card (L 3)
theorem cards_le (L:Int→ISet):cards L≤84:=by have h0:=card_le (L 0);have h1:=card_le (L 1);have h2:=card_le (L 2);have h3:=card_le (L 3);exact Nat.add_le_add (Nat.add_le_add (Nat.add_le_add h0 h1) h2) h3
theorem cards_lt {L:Int→ISet}{k:Int}{m:ISet}(h0:0≤k)(h1:k < 4)(h:card (L k) < card m):cards L < cards (at1 k m L):=by
 unfold cards at1
 rcases i4 h0 h1 with rfl|rfl|rfl|rfl<;>simp<;>lia
structure NI (A:Adr)(P:Prg)(E:Ens)(L:Int→ISet)(W:List Int)(a:Nat)(fl:Int→Bool):Prop where
 wr:∀ x∈W,0≤x∧x < 4
 al:a≤W.length
 fw:∀ i,fl i=true→i∈W.drop a
 fx:∀ i,0≤i→i < 4→fl i=false→L i=liveF A P E L i
 up:∀ i,0≤i→i < 4→Le (L i) (liveF A P E L i)
 us:∀ i r,L i r=true→Used P E r
 ln:W.length+5 * (84 - cards L)≤424
structure NJ (n a:Nat)(fl:Int→Bool)(k:Nat)(dn W:List Int)(fl2:Int→Bool):Prop where
 wr:∀ y∈W,0≤y∧y < 4
 al:a≤W.length
 fw:∀ i,fl2 i=true→i∈W.drop a
 mo:∀ i,fl i=true→fl2 i=true
 dn:∀ i∈dn,fl2 i=true
 ln:W.length+k≤n+2
noncomputable def mea (L:Int→ISet) (W:List Int) (a:Nat):Nat:=5 * (84 - cards L)+(W.length - a)
section
variable {A:Adr}{P:Prg}{E:Ens}{br:Bool}{L:Int→ISet}{W dn:List Int}{a n k:Nat}{fl fl2:Int→Bool}{x y:Int}
theorem nI0:NI A P E (λx_ x_=>false) [3,2,1,0] 0 (λi=>decide (0≤i∧i < 4)):=
 ⟨by decide,by decide,λi hi=>by
  have:=of_decide_eq_true hi
  rcases i4 this.1 this.2 with rfl|rfl|rfl|rfl<;>decide,λi a b hi=>absurd ⟨a,b⟩ (of_decide_eq_false hi),λi x_ x_ r hr=>(Bool.false_ne_true hr).elim,λi r hr=>(Bool.false_ne_true hr).elim,by decide⟩
theorem NI.done (I:NI A P E L W a fl)(h:W.length≤a)(i:Int):fl i=false:=by
 cases e:fl i with
 |false=>rfl
 |true=>exact nomatch (List.drop_eq_nil_of_le h) ▸ I.fw i e
theorem NI.at (I:NI A P E L W a fl)(h:a < W.length):∃ x,W[a]? = some x∧(0≤x∧x < 4)∧∀ i,at1 x false fl i=true→i∈W.drop (a+1):=by
 refine⟨W[a],List.getElem?_eq_getElem h,I.wr _ (List.getElem_mem h),λi hi=>?_⟩
 by_cases e:i=W[a]
 ·rw[e,at1_self] at hi;exact (Bool.false_ne_true hi).elim
 ·rw[at1_ne e] at hi
  have:=I.fw i hi
  rw[List.drop_eq_getElem_cons h] at this
  exact (List.mem_cons.mp this).resolve_left e
theorem NI.stay (I:NI A P E L W a fl)(h:a < W.length)(hf:∀ i,at1 x false fl i=true→i∈W.drop (a+1))(e:L x=liveF A P E L x):NI A P E L W (a+1) (at1 x false fl):=
 ⟨I.wr,h,hf,λi h0 h1 hi=>by
  by_cases q:i=x
  ·refine rwI q ?_;exact e
  ·rw[at1_ne q] at hi;exact I.fx i h0 h1 hi,I.up,I.us,I.ln⟩
theorem NI.inner (I:NI A P E L W a fl)(h:a < W.length)(hf:∀ i,at1 x false fl i=true→i∈W.drop (a+1)):NJ W.length (a+1) (at1 x false fl) (predsS br x).length [] W (at1 x false fl):=
 ⟨I.wr,h,hf,λx_ h=>h,λx_ h=>(nomatch h),Nat.add_le_add_left (predsS_len br x) _⟩
theorem NJ.old (J:NJ n a fl (k+1) dn W fl2)(h:fl2 y=true):NJ n a fl k (dn++[y]) W fl2:=
 ⟨J.wr,J.al,J.fw,J.mo,λi hi=>(List.mem_append.mp hi).elim (J.dn i) λe=>mem1 e ▸ h,Nat.le_trans (Nat.le_succ _) J.ln⟩
theorem NJ.new (J:NJ n a fl (k+1) dn W fl2)(h:0≤y∧y < 4):NJ n a fl k (dn++[y]) (W++[y]) (at1 y true fl2):=by
 have g:∀ i,fl2 i=true→at1 y true fl2 i=true:=λi hi=>by
  by_cases e:i=y
  ·(refine rwI e ?_;refine rwI at1_self ?_;rfl)
  ·refine rwI (at1_ne e) ?_;exact hi
 have l:=J.al
 have l2:=J.ln
 refine⟨λz hz=>(List.mem_append.mp hz).elim (J.wr z) λe=>mem1 e ▸ h,by refine rwI List.length_append ?_;lia,λi hi=>?_,λi hi=>g i (J.mo i hi),λi hi=>(List.mem_append.mp hi).elim (λe=>g i (J.dn i e)) λe=>mem1 e ▸ at1_self,by (refine rwI List.length_append ?_;refine rwI List.length_singleton ?_);lia⟩
 refine rwI (List.drop_append_of_le_length l) ?_
 by_cases e:i=y
 ·exact List.mem_append_right _ (e ▸ .head _)
 ·rw[at1_ne e] at hi;exact List.mem_append_left _ (J.fw i hi)
theorem NI.le (h:Le (L x) (liveF A P E L x))(j:Int):Le (L j) (at1 x (liveF A P E L x) L j):=by
 by_cases e:j=x
 ·(refine rwI e ?_;refine rwI at1_self ?_);exact h
 ·refine rwI (at1_ne e) ?_;exact Le.refl _
theorem NI.used (I:NI A P E L W a fl)(h0:0≤x)(h1:x < 4):∀ i r,at1 x (liveF A P E L x) L i r=true→Used P E r:=λi r hr=>by
 by_cases ei:i=x
 ·rw[ei,at1_self] at hr;exact liveF_used h0 h1 I.us hr
 ·rw[at1_ne ei] at hr;exact I.us i r hr
theorem NI.card (I:NI A P E L W a fl)(hu:∀ r,Used P E r→0≤r∧r < 21)(h0:0≤x)(h1:x < 4)(ne:L x≠liveF A P E L x):cards L < cards (at1 x (liveF A P E L x) L):=
 cards_lt h0 h1 (card_lt (I.up x h0 h1) (λr hr=>hu r (liveF_used h0 h1 I.us hr)) ne)
theorem nx_le {w v u z:Nat}(h:u < v)(hz:z+0≤w+2)(hw:w+5 * v≤424):z+5 * u≤424:=
 Nat.le_trans (Nat.add_le_add_right hz (5 * u)) (Nat.le_trans (Nat.le_of_eq (Nat.add_assoc ..)) (Nat.le_trans (Nat.add_le_add_left (Nat.le_trans (Nat.add_le_add_right (by decide:2≤5) (5 * u)) (Nat.le_trans (Nat.le_of_eq (Nat.add_comm 5 (5 * u))) (Nat.mul_le_mul_left 5 h))) w) hw))
set_option tactic.hygienic true in
theorem NI.next (I:NI A P E L W a fl){W2:List Int}(hS:Shape br E)(h0:0≤x)(h1:x < 4)(hc:cards L < cards (at1 x (liveF A P E L x) L))(J:NJ W.length (a+1) (at1 x false fl) 0 (predsS br x) W2 fl2):NI A P E (at1 x (liveF A P E L x) L) W2 (a+1) fl2:=by
 have hc84:=cards_le (at1 x (liveF A P E L x) L)
 have l1:=I.ln
 have l2:=J.ln
 have le:=NI.le (I.up x h0 h1)
 refine⟨J.wr,J.al,J.fw,λi i0 i1 hi=>?_,λi i0 i1=>?_,I.used h0 h1,nx_le (Nat.sub_lt_sub_left (Nat.lt_of_lt_of_le hc hc84) hc) l2 l1⟩
 ·have hx:x ∉ succS br i:=λe=>Bool.false_ne_true (hi.symm.trans (J.dn i (predsS_in i0 i1 e)))
  have e:liveF A P E (at1 x (liveF A P E L x) L) i=liveF A P E L i:=liveF_congr λj hj=>by
   rw[hS i i0 i1] at hj
   exact at1_ne λe=>hx (e ▸ hj)
  refine rwI e ?_
  by_cases ei:i=x
  ·(refine rwI ei ?_;refine rwI at1_self ?_;rfl)
  ·refine rwI (at1_ne ei) ?_
   refine I.fx i i0 i1 ?_
   cases q:fl i with
   |false=>rfl
   |true=>exact (Bool.false_ne_true (hi.symm.trans (J.mo i ((at1_ne ei).trans q)))).elim
 ·by_cases ei:i=x
  ·(refine rwI ei ?_;refine rwI at1_self ?_);exact liveF_mono le x
  ·refine rwI (at1_ne ei) ?_;exact (I.up i i0 i1).trans (liveF_mono le i)
theorem NI.less (I:NI A P E L W a fl)(h:a < W.length){W2:List Int}(hc:cards L < cards (at1 x (liveF A P E L x) L))(J:NJ W.length (a+1) (at1 x false fl) 0 (predsS br x) W2 fl2):mea (at1 x (liveF A P E L x) L) W2 (a+1) < mea L W a:=by
 have h1:84 - cards (at1 x (liveF A P E L x) L) < 84 - cards L:=Nat.sub_lt_sub_left (Nat.lt_of_lt_of_le hc (cards_le _)) hc
 have h2:W2.length - (a+1)≤W.length - a+1:=Nat.le_trans (Nat.sub_le_sub_right J.ln (a+1)) (Nat.le_of_eq ((Nat.add_sub_add_right (W.length+1) 1 a).trans (Nat.succ_sub (Nat.le_of_lt h))))
 unfold mea
 generalize 84 - cards (at1 x (liveF A P E L x) L)=u at h1 ⊢
 generalize 84 - cards L=v at h1 ⊢
 generalize W2.length - (a+1)=y at h2 ⊢
 generalize W.length - a=z at h2 ⊢
 lia
end
structure N1 (H H':AHeap)(w f ah iw:Nat)(q:Int→Nat)(br:Bool)(dn:List Int)(sA:Int→Nat):Prop where
 ex:Ext H H'
 gw:H' w=some (.list ([3,2,1,0].map .int))
 gp:PrAt H' f q (predsS br)
 ga:H' ah=some (.dict (dn.map λi=>(i,.ref (sA i))))
 gi:H' iw=some (.dict (dn.map λi=>(i,.bool true)))
 gs:∀ i∈dn,H' (sA i)=some (.set λx_=>false)
theorem putE_new {x:Int}(g:Int→AV)(v:AV):∀ {d:List Int},x ∉ d→putE (d.map λi=>(i,g i)) x v=d.map (λi=>(i,g i))++[(x,v)]:=@λy_1=>@λy_2=>match @y_1,@y_2 with
 |[],x_1=>rfl
 |y::d,hd=>by (refine rwI List.map_cons ?_;refine rwI putE_c ?_;refine rwI (if_neg λe=>hd (List.mem_cons.mpr (.inl e.symm))) ?_;refine rwI (putE_new g v λe=>hd (.tail _ e)) ?_);rfl
theorem N1.step {H H':AHeap}{w f ah iw:Nat}{q:Int→Nat}{br:Bool}{dn:List Int}{sA:Int→Nat}{x:Int}{s:Nat}(N:N1 H H' w f ah iw q br dn sA)(hah:H ah=none)(hiw:H iw=none)(nai:ah≠iw)(hx:x ∉ dn)(hl:dn.length≤3)(hs:H' s=none){Q:AHeap→Prop}
  (k:∀ G,N1 H G w f ah iw q br (dn++[x]) (at1 x s sA)→Q G):opSetI (upd H' s (.set λx_=>false)) (.ref ah) (.int x) (.ref s) λG=>opSetI G (.ref iw) (.int x) (.bool true) Q:=by
 refine opSetI_dict (keepN hs N.ga) (by refine rwI (List.length_map ..) ?_;lia) ?_
 refine rwI (putE_new _ _ hx) ?_
 refine opSetI_dict ((upd_ne _ (Ne.symm nai)).trans (keepN hs N.gi)) (by refine rwI (List.length_map ..) ?_;lia) ?_
 refine rwI (putE_new (λx_=>.bool true) _ hx) ?_
 have gi:upd (upd H' s (.set λx_=>false)) ah (.dict (dn.map (λi=>(i,.ref (sA i)))++[(x,.ref s)])) iw=_:=(upd_ne _ (Ne.symm nai)).trans (keepN hs N.gi)
 have kp:∀ {y o},upd H' s (.set λx_=>false) y=some o→(∀ es,o≠.dict es)→upd (upd (upd H' s (.set λx_=>false)) ah (.dict (dn.map (λi=>(i,.ref (sA i)))++[(x,.ref s)]))) iw (.dict (dn.map (λi=>(i,.bool true))++[(x,.bool true)])) y=some o:=
  λhy ho=>keepD gi (keepD (keepN hs N.ga) hy ho) ho
 refine k _ ⟨((N.ex.trans (Ext.new hs)).set hah).set hiw,kp (keepN hs N.gw) nd_list,N.gp.mono λx_ x_ h=>kp (keepN hs h) nd_list,?_,?_,λi hi=>?_⟩
 ·(refine rwI (upd_ne _ nai) ?_;refine rwI (upd_self ..) ?_;refine rwI List.map_append ?_;refine rwI List.map_cons ?_;refine rwI List.map_nil ?_;refine rwI at1_self ?_)
  exact congrArg (λl=>some (AObj.dict (l++_))) (List.map_congr_left λi hi=>congrArg (λa=>(i,AV.ref a)) (at1_ne λe:i=x=>hx (e ▸ hi)).symm)
 ·(refine rwI (upd_self ..) ?_;refine rwI List.map_append ?_);rfl
 ·rcases List.mem_append.mp hi with hi|hi
  ·refine rwI (at1_ne λe:i=x=>hx (e ▸ hi)) ?_;exact kp (keepN hs (N.gs i hi)) nd_set
  ·(refine rwI (mem1 hi) ?_;refine rwI at1_self ?_);exact kp (upd_self ..) nd_set
theorem mid_nodup {α:Type}{x:α}{dn l L:List α}(e:dn++x::l=L)(h:L.Nodup):x ∉ dn:=λhm=>(List.nodup_append.mp (e ▸ h)).2.2 x hm x (.head _) rfl
theorem mid_mem {α:Type}{x:α}{dn l L:List α}(e:dn++x::l=L):x∈L:=e ▸ List.mem_append_right _ (.head _)
theorem mid_next {α:Type}{x:α}{dn l L:List α}(e:dn++x::l=L):(dn++[x])++l=L:=by (refine rwS e ?_;refine rwI (List.append_assoc ..) ?_);rfl
theorem mid_len {α:Type}{x:α}{dn l L:List α}(e:dn++x::l=L):dn.length < L.length:=by (refine rwS e ?_;refine rwI List.length_append ?_);exact Nat.lt_add_of_pos_right (Nat.succ_pos _)
theorem mid_end {α:Type}{dn L:List α}(e:dn++[]=L):dn=L:=(List.append_nil dn).symm.trans e
set_option tactic.hygienic true in
theorem needs_ahead_ok (n:Nat){H:AHeap} {ly P E br ad A}{Q:AV→AHeap→Prop}(hB:BodyAt H ly P E)(hS:Shape br E)(hA:DictAt H ad A)(hs:SlotsOk A)(hp:∀ i,RowsRegs (P i))(hx:∀ i,RegsOk (E i).args)
  (h:∀ (ah:Nat) (sA:Int→Nat) (L:Int→ISet) (H':AHeap),Ext H H'→H' ah=some (.dict (esOf λi=>.ref (sA i)))→(∀ i,0≤i→i < 4→H' (sA i)=some (.set (L i)))→(∀ i,0≤i→i < 4→L i=liveF A P E L i)→(∀ i r,L i r=true→Used P E r)→Q (.ref ah) H') :
  Cn tabP (n+5) 21 [bodyV ly,.ref ad] H Q:=by
 refine enter rfl rfl ?_
 have usedR:∀ r,Used P E r→0≤r∧r < 21:=λr ⟨i,_,_,hr⟩=>hr.elim (hx i r) λ⟨p,hp',hr⟩=>hp i p hp' r hr
 refine postorder_ok (n+2) hB hS λw H1 ex1 hw hw0=>?_
 refine preds_ok (n+2) (hB.ext ex1) hS λf q H2 ex2 hf hq R=>?_
 intro ah hah
 intro iw hiw
 have e12:=ex1.trans ex2
 have e3:=e12.trans (Ext.new (o:=.dict []) hah)
 have hah0:=e12.none hah
 have hiw0:=e3.none hiw
 have nwf:w≠f:=λe=>none_some (hf.symm.trans (e ▸ hw))
 have nwq:∀ i,0≤i→i < 4→w≠q i:=λi a b e=>none_some ((hq i a b).symm.trans (e ▸ hw))
 have nai:ah≠iw:=λe=>by rw[← e,upd_self] at hiw;exact none_some hiw.symm
 have gf4:∀ {x o},H2 x=some o→upd (upd H2 ah (.dict [])) iw (.dict []) x=some o:=λ{x o} hx=>keepN hiw (keepN hah hx)
 have N0:N1 H (upd (upd H2 ah (.dict [])) iw (.dict [])) w f ah iw q br [] λx_=>0:=
  ⟨e3.trans (Ext.new hiw),gf4 (ex2 _ _ hw),R.mono λx_ x_=>gf4,(upd_ne _ nai).trans (upd_self ..),upd_self ..,λi hi=>nomatch hi⟩
 clear hw hf hq R hah hiw e3 e12 ex1 ex2 gf4
 refine wB_gen (λG=>N1 H G w f ah iw q br [] λx_=>0) N0 λG N0=>?_
 apply ok_mk (lstOf_list N0.gw)
 let Iv:List (Int)→AEnv→AHeap→Prop:=λl ρ H'=>Ex7 λdn sA j6 j7 j8 j9 j10=>And3 (dn++l=[3,2,1,0]) (ρ=[some (bodyV ly),some (.ref ad),some (.ref w),some (.ref f),some (.ref ah),some (.ref iw),j6,j7,j8,j9,j10]) (N1 H H' w f ah iw q br dn sA)
 refine forL_mapE (l:=[3,2,1,0]) AV.int Iv rfl
   ⟨[],λx_=>0,_,_,_,_,_,rfl,rfl,N0⟩ ?_ ?_
 ·rintro x l ρ H' K K1 K2 K3 ⟨dn,sA,j6,j7,j8,j9,j10,hdn,rfl,N⟩
  intro s hs
  exact N.step hah0 hiw0 nai (mid_nodup hdn (by decide)) (Nat.le_of_lt_succ (mid_len hdn)) hs λG N=>K1 _ _ N.gw ⟨dn++[x],_,_,_,_,_,_,mid_next hdn,rfl,N⟩
 ·rintro ρ H' ⟨dn,sA,j6,j7,j8,j9,j10,hdn,rfl,N⟩
  have S0:NSt H H' w f ah iw q br (λx_ x_=>false) [3,2,1,0] (λi=>decide (0≤i∧i < 4)) sA:=by
   rw[mid_end hdn] at N
   exact⟨N.ex,hw0,hah0,hiw0,N.gw,N.gp,N.ga,N.gi,λi a b=>N.gs i (by rcases i4 a b with rfl|rfl|rfl|rfl<;>decide),nwf,nwq,nai⟩
  clear N N0 hdn
  refine s_int ?_
  let Iv:Nat→AEnv→AHeap→Prop:=λk ρ H'=>Ex9 λL W a fl sA j6 j8 j9 j10=>And4 (ρ=[some (bodyV ly),some (.ref ad),some (.ref w),some (.ref f),some (.ref ah),some (.ref iw),j6,some (.int (Int.ofNat a)),j8,j9,j10]) (NSt H H' w f ah iw q br L W fl sA) (NI A P E L W a fl) (k=mea L W a)
  refine whl_I Iv _ ⟨_,_,0,_,_,_,_,_,_,rfl,S0,nI0,rfl⟩ ?_
  clear S0
  rintro k ρ H' K K1 K2 K3 ⟨L,W,a,fl,sA,j6,j8,j9,j10,rfl,S,I,rfl⟩
  apply ok_mk (lenOf_list S.R.gw)
  have hdec:decide (Int.ofNat a < ((W.map AV.int).length:Int))=decide (a < W.length):=by
   (refine rwI (List.length_map ..) ?_;refine rwI (propext Bool.eq_iff_iff) ?_;refine rwI (propext decide_eq_true_iff) ?_;refine rwI (propext decide_eq_true_iff) ?_);exact Int.ofNat_lt
  refine bcase (b:=decide (a < W.length)) (λhlt=>?_) λhlt=>?_
  ·
   apply no (hdec.trans hlt)
   exact h ah sA L H' S.ex S.R.ga S.R.gs (λi h0 h1=>I.fx i h0 h1 (I.done (Nat.le_of_not_lt (of_decide_eq_false hlt)) i)) I.us
  ·
   apply yes (hdec.trans hlt)
   replace hlt:=of_decide_eq_true hlt
   obtain⟨x,hxW,⟨x0,x1⟩,hf⟩:=I.at hlt
   apply ok_mk (((getIx_list _ S.R.gw).trans ((List.getElem?_map ..).trans (congrArg (Option.map AV.int) hxW))):getIx H' (.ref w) (.int (Int.ofNat a))=some (.int x))
   refine S.flag x0 x1 λG1 S1=>?_
   apply ok_mk (blks_ix x0 x1)
   refine S1.live n hB hS hA hs hp hx x0 x1 λhr G2 S2 hhr=>?_
   clear S S1 hxW hdec
   apply ok_mk ((getIx_dict S2.R.ga).trans (esOf_look _ x0 x1))
   apply ok_mk (asSet_set hhr)
   apply ok_mk (asSet_set (S2.R.gs x x0 x1))
   intro b hb
   cases b with
   |false=>exact K1 (mea L W (a+1)) _ _ (Nat.add_lt_add_left (Nat.sub_lt_sub_left (hlt) (Nat.lt_succ_self a)) _) ⟨L,W,a+1,_,sA,_,_,_,_,rfl,S2,I.stay hlt hf (Classical.byContradiction λhn=>Bool.false_ne_true (hb.mpr (Ne.symm hn))),rfl⟩
   |true=>
    have hc:=I.card usedR x0 x1 (Ne.symm (hb.mp rfl))
    refine S2.setA x0 x1 hhr λG3 S3=>?_
    apply ok_mk (S3.prev x0 x1)
    apply ok_mk (lstOf_list (S3.R.gp.e x x0 x1))
    have ln:=I.ln
    let Iv:List (Int)→AEnv→AHeap→Prop:=λl2 ρ H2=>Ex4 λdn W2 fl2 j10=>And4 (dn++l2=predsS br x) (ρ=[some (bodyV ly),some (.ref ad),some (.ref w),some (.ref f),some (.ref ah),some (.ref iw),some (.int x),some (.int (Int.ofNat a+1)),some (.ref (ly.b x)),some (.ref hr),j10]) (NSt H H2 w f ah iw q br (at1 x (liveF A P E L x) L) W2 fl2 (at1 x hr sA)) (NJ W.length (a+1) (at1 x false fl) l2.length dn W2 fl2)
    refine forL_map AV.int Iv ?_ ?_ _ _ _ ⟨[],W,_,_,rfl,rfl,S3,I.inner hlt hf⟩
    ·clear K1 K2 K3 h S2 S3 hhr I
     rintro y l2 ρ H2 K' K1' K2' K3' ⟨dn,W2,fl2,j10,hdn,rfl,Sy,J⟩
     have hy:=predsS_r (mid_mem hdn)
     apply ok_mk (opIn_dict Sy.R.ga)
     refine yes (congrArg Option.isSome (esOf_look _ hy.1 hy.2)) ?_
     apply ok_mk ((getIx_dict Sy.R.gi).trans (esOf_look _ hy.1 hy.2))
     cases hfy:fl2 y with
     |true=>exact K1' _ _ (Sy.R.gp.e x x0 x1) ⟨dn++[y],W2,fl2,_,mid_next hdn,rfl,Sy,J.old hfy⟩
     |false=>
      refine Sy.flag hy.1 hy.2 λG4 S4=>?_
      refine S4.app (by have:=J.ln;lia) λG5 S5=>?_
      exact K1' _ _ (S5.R.gp.e x x0 x1) ⟨dn++[y],W2++[y],_,_,mid_next hdn,rfl,S5,J.new hy⟩
    ·clear h S2 S3 hhr
     rintro ρ H2 ⟨dn,W2,fl2,j10,hdn,rfl,Sy,J⟩
     rw[mid_end hdn] at J
     exact K1 _ _ _ (I.less hlt hc J) ⟨_,W2,a+1,fl2,_,_,_,_,_,rfl,Sy,I.next hS x0 x1 hc J,rfl⟩
set_option tactic.hygienic true in
theorem Kept.cmp {l k}(h:Kept l k):k.length=l.length→(((k.zip l).any λp=>!(p.1.1==p.2.1))=false→k=l)∧(((k.zip l).any λp=>!(p.1.1==p.2.1))=true→k.map (·.2)≠l.map (·.2)):=by
 induction h with
 |nil=>intro _;exact⟨λx_=>rfl,λe=>by exact nomatch e⟩
 |same p hk ih=>
  intro e
  obtain⟨i1,i2⟩:=ih (by simpa using e)
  simp only[List.zip_cons_cons,List.any_cons,beq_self_eq_true,Bool.not_true,Bool.false_or,List.map_cons,ne_eq,List.cons.injEq,true_and]
  exact⟨λh=>by (refine rwI (i1 h) ?_;rfl),i2⟩
 |gone p hk ih=>
  intro e
  have:=hk.len
  simp at e;lia
 |new ha hr hk ih=>
  rename_i l k a a' r r'
  intro e
  have:(a'==a)=false:=by simpa using ha
  simp only[List.zip_cons_cons,List.any_cons,this,Bool.not_false,Bool.true_or,List.map_cons,ne_eq,List.cons.injEq]
  exact⟨λh=>(by exact absurd h (by decide)),λx_ h=>hr h.1⟩
theorem stepsV_len (l:List (Nat×Row)):(stepsV l).length=l.length:=List.length_map ..
theorem zipL_steps:∀ (k l:List (Nat×Row)),zipL (stepsV k) (stepsV l)=(k.zip l).map λp=>.tup [stepV p.1.1 p.1.2,stepV p.2.1 p.2.2]:=@λy_1=>@λy_2=>match @y_1,@y_2 with
 |[],x_1=>rfl
 |x_1::x_2,[]=>by rfl
 |a::k,b::l=>congrArg (AV.tup [stepV a.1 a.2,stepV b.1 b.2] :: ·) (zipL_steps k l)
theorem boolsOf_map {α:Type}(f:α→Bool):∀ l:List α,boolsOf (l.map λx=>.bool (f x))=some (l.map f):=@λy_1=>match @y_1 with
 |[]=>rfl
 |x::l=>congrArg (Option.map (f x :: ·)) (boolsOf_map f l)
noncomputable def OldBut (H H':AHeap) (ly:Lay):Prop:=∀ y o,H y=some o→(∀ i,0≤i→i < 4→y≠ly.d i)→H' y=some o
noncomputable def DInj (ly:Lay):Prop:=∀ i j,0≤i→i < 4→0≤j→j < 4→ly.d i=ly.d j→i=j
theorem ns_i0 {c c':Nat}{i j:Int}{l l':List AV}(h:some (AObj.ns c (.int i::l))=some (.ns c' (.int j::l'))):i=j:=by cases h;rfl
theorem BodyAt.inj {H ly P E}(h:BodyAt H ly P E):DInj ly:=λi j a b c d e=>by
 have h1:=(h i a b).2
 have h2:=(h j c d).2
 rw[e,h2] at h1
 exact ns_i0 h1 |>.symm
theorem OldBut.refl (H ly):OldBut H H ly:=λx_ x_ h x_=>h
theorem OldBut.trans {H H' H'' ly}(a:OldBut H H' ly)(b:OldBut H' H'' ly):OldBut H H'' ly:=λy o h n=>b y o (a y o h n) n
theorem Ext.old {H H' ly}(a:Ext H H'):OldBut H H' ly:=λy o h x_=>a y o h
theorem BodyAt.setSteps {H ly P E}(h:BodyAt H ly P E){i:Int}(i0:0≤i)(i1:i < 4)(K:List (Nat×Row)) :
  BodyAt (upd H (ly.d i) (.ns 1 (putF [.int i,.lst (stepsV (P i)),endV (ly.e i) (E i)] 1 (.lst (stepsV K))))) ly (λj=>if j=i then K else P j) E:=λj j0 j1=>by
 obtain⟨hb,hd⟩:=h j j0 j1
 have nb:ly.b j≠ly.d i:=ne_of_objs hb (h i i0 i1).2 (by simp)
 refine⟨by refine rwI (upd_ne _ nb) ?_;exact hb,?_⟩
 by_cases e:j=i
 ·subst e;refine rwI (upd_self ..) ?_;simp only[if_true];rfl
 ·refine rwI (upd_ne _ (λq=>e (h.inj j i j0 j1 i0 i1 q))) ?_;simp only[if_neg e];exact hd
noncomputable def sweptP (A:Adr) (P:Prg) (E:Ens) (L:Int→ISet) (i:Int):List Row:=sweepRows A ((P i).map (·.2)) (uses (E i).args (behind L (E i)))
theorem sweep_steps_ok (n:Nat){H:AHeap} {ly P E br ad A}{Q:AV→AHeap→Prop}(hB:BodyAt H ly P E)(hS:Shape br E)(hA:DictAt H ad A)(hs:SlotsOk A)(hp:∀ i,RowsRegs (P i))(hx:∀ i,RegsOk (E i).args)
  (hn:∀ i,NoSelf (P i)) (hdst:∀ i,∀ p∈P i,-1≤p.2.dst) (hl:∀ i,(P i).length≤1000)
  (h:∀ (P':Prg) (L:Int→ISet) (c:Bool) (H':AHeap),(∀ i,0≤i→i < 4→L i=liveF A P E L i)→(∀ i r,L i r=true→Used P E r)→(∀ i,0≤i→i < 4→Kept (P i) (P' i)∧(P' i).map (·.2)=sweptP A P E L i)→BodyAt H' ly P' E→OldBut H H' ly →
   (c=false→∀ i,0≤i→i < 4→P' i=P i)→(c=true→∃ i,0≤i∧i < 4∧(P' i).map (·.2)≠(P i).map (·.2))→Q (.bool c) H'):Cn tabP (n+6) 24 [bodyV ly,.ref ad] H Q:=by
 refine enter rfl rfl ?_
 refine needs_ahead_ok n hB hS hA hs hp hx λah sA L H1 ex1 ha hsA hfix hus=>?_
 have hsort:sortedOf H1 (.ref ah)=some (([0,1,2,3]:List Int).map .int):=(congrArg sortedO ha).trans rfl
 apply ok_mk hsort
 have ndA:∀ i,0≤i→i < 4→ah≠ly.d i:=λi a b=>ne_of_objs ha (ex1 _ _ (hB i a b).2) (by simp)
 have nsA:∀ i j,0≤i→i < 4→0≤j→j < 4→sA i≠ly.d j:=λi j a b c d=>ne_of_objs (hsA i a b) (ex1 _ _ (hB j c d).2) (by simp)
 refine forL_mapE (l:=[0,1,2,3]) AV.int (λl ρ H'=>Ex8 λdn Pc c j4 j5 j6 j7 j8=>And8 (dn++l=[0,1,2,3]) (ρ=[some (bodyV ly),some (.ref ad),some (.ref ah),some (.bool c),j4,j5,j6,j7,j8]) (OldBut H1 H' ly) (BodyAt H' ly Pc E) ((∀ i∈dn,Kept (P i) (Pc i)∧(Pc i).map (·.2)=sweptP A P E L i)) ((∀ i∈l,Pc i=P i)) ((c=false→∀ i,0≤i→i < 4→Pc i=P i)) ((c=true→∃ i∈dn,(Pc i).map (·.2)≠(P i).map (·.2)))) rfl
   ⟨[],P,false,_,_,_,_,_,rfl,rfl,.refl _ _,hB.ext ex1,λi hi=>(by exact nomatch hi),λx_ x_=>rfl,λx_ x_ x_ x_=>rfl,λe=>(by exact (Bool.false_ne_true e).elim)⟩ ?_ ?_
 ·rintro x l ρ H' K K1 K2 K3 ⟨dn,Pc,c,j4,j5,j6,j7,j8,hdn,rfl,old,hBc,hdone,hrest,hc0,hc1⟩
  have hxm:x∈([0,1,2,3]:List Int):=by refine rwS hdn ?_;simp
  have hx4:0≤x∧x < 4:=by simp at hxm;lia
  have hnd:([0,1,2,3]:List Int).Nodup:=by decide
  have hxd:x ∉ dn:=λhm=>by
   rw[← hdn] at hnd
   exact (List.nodup_append.mp hnd).2.2 x hm x (.head _) rfl
  have hxl:x ∉ l:=λhm=>by
   rw[← hdn] at hnd
   exact (List.nodup_cons.mp (List.nodup_append.mp hnd).2.1).1 hm
  have hPx:Pc x=P x:=hrest x (.head _)
  obtain⟨hb,hd⟩:=hBc x hx4.1 hx4.2
  apply ok_mk (blks_ix hx4.1 hx4.2)
  have ga:H' ah=some (.dict (esOf λi=>.ref (sA i))):=old _ _ ha ndA
  refine need_behind_ok (n+3) hb hd (L:=L) ⟨_,ga,λj hj=>?_⟩ λhr hhr=>?_
  ·rw[hS x hx4.1 hx4.2] at hj
   have:=succS_in hj
   exact⟨_,esOf_look _ this.1 this.2,old _ _ (hsA j this.1 this.2) (λk a b=>nsA j k this.1 this.2 a b)⟩
  have hA2:DictAt (upd H' hr (.set (behind L (E x)))) ad A:=by
   obtain⟨es,h1,h2⟩:=hA
   refine⟨es,keepN hhr (old _ _ (ex1 _ _ h1) λi a b=>?_),h2⟩
   exact ne_of_objs h1 (hB i a b).2 (by simp)
  have hd':=hd
  rw[hPx] at hd'
  refine swept_steps_ok (n+1) (keepN hhr hb) (keepN hhr hd') (upd_self ..) hA2 hs (hp x) (hx x) (hn x) (hdst x) (hl x) λK' H2 hK hK2 hold=>?_
  have hold':∀ y o,H' y=some o→H2 y=some o:=λy o hy=>hold y o (by rintro rfl;rw[hhr] at hy;exact nomatch hy) (keepN hhr hy)
  have hB2:BodyAt H2 ly Pc E:=hBc.ext hold'
  have es:attrOf H2 1 1 (.ref (ly.b x))=some (.lst (stepsV (P x))):=by
   have:=blk_attr 1 (hB2 x hx4.1 hx4.2).1 (hB2 x hx4.1 hx4.2).2
   rw[hPx] at this;exact this
  have hswp:K'.map (·.2)=sweptP A P E L x:=hK2
  apply ok_mk es
  have hdec:decide (((stepsV K').length:Int) < ((stepsV (P x)).length:Int))=decide (K'.length < (P x).length):=by (refine rwI (stepsV_len ..) ?_;refine rwI (stepsV_len ..) ?_;refine rwI (propext Bool.eq_iff_iff) ?_;refine rwI (propext decide_eq_true_iff) ?_;refine rwI (propext decide_eq_true_iff) ?_);exact Int.ofNat_lt
  have store:(K'.map (·.2)≠(P x).map (·.2))→wB (Cn tabP (n+5)) [.asgA (.v 5) 1 1 (.v 6),.asg 3 (.bool true)] [some (bodyV ly),some (.ref ad),some (.ref ah),some (.bool c),some (.int x),some (.ref (ly.b x)),some (.lst (stepsV K')),j7,j8] H2 (λf ρ H=>match f with|.nx=>wB (Cn tabP (n+5)) [] ρ H K|f=>K f ρ H):=λhne=>by
   refine opSetA_ok (hB2 x hx4.1 hx4.2).1 (hB2 x hx4.1 hx4.2).2 (Nat.le_of_ble_eq_true rfl) ?_
   have hB3:=hB2.setSteps hx4.1 hx4.2 K'
   refine K1 _ _ trivial ⟨dn++[x],_,true,_,_,_,_,_,by refine rwS hdn ?_;simp,rfl,λy o hy hny=>?_,hB3,λi hi=>?_,λi hi=>?_,λe=>(by exact absurd e (by decide)),λx_=>⟨x,by simp,by simp only[if_true];exact hne⟩⟩
   ·refine rwI (upd_ne _ (hny x hx4.1 hx4.2)) ?_;exact hold' _ _ (old y o hy hny)
   ·rcases List.mem_append.mp hi with hi'|hi'
    ·have:i≠x:=by rintro rfl;exact hxd hi'
     simp only[if_neg this];exact hdone i hi'
    ·simp at hi';subst hi';simp only[if_true];exact⟨hK,hswp⟩
   ·have:i≠x:=by rintro rfl;exact hxl hi
    simp only[if_neg this];exact hrest i (.tail _ hi)
  have same:K'=P x→K .nx [some (bodyV ly),some (.ref ad),some (.ref ah),some (.bool c),some (.int x),some (.ref (ly.b x)),some (.lst (stepsV K')),j7,j8] H2:=λhe=>by
   refine K1 _ _ trivial ⟨dn++[x],Pc,c,_,_,_,_,_,by refine rwS hdn ?_;simp,rfl,λy o hy hny=>hold' _ _ (old y o hy hny),hB2,λi hi=>?_,λi hi=>hrest i (.tail _ hi),hc0,λe=>?_⟩
   ·rcases List.mem_append.mp hi with hi|hi
    ·exact hdone i hi
    ·simp at hi;subst hi;refine rwI hPx ?_
     rw[he] at hK hswp
     exact⟨hK,hswp⟩
   ·obtain⟨i,hi,hne⟩:=hc1 e
    exact⟨i,by simp[hi],hne⟩
  cases hlt:decide (K'.length < (P x).length) with
  |true=>
   apply yes (hdec.trans hlt)
   apply yes (hdec.trans hlt)
   refine store λe=>?_
   have:=congrArg List.length e
   have hlt:=of_decide_eq_true hlt
   simp at this;lia
  |false=>
   apply no (hdec.trans hlt)
   have hlen:K'.length=(P x).length:=Nat.le_antisymm hK.len (Nat.le_of_not_lt (of_decide_eq_false hlt))
   obtain⟨c1,c2⟩:=hK.cmp hlen
   apply ok_mk es
   refine compL_mapE (λp:(Nat×Row)×(Nat×Row)=>AV.tup [stepV p.1.1 p.1.2,stepV p.2.1 p.2.2]) (λl G Q'=>G=H2∧Q' (l.map λp=>.bool (!(p.1.1==p.2.1))) H2) (zipL_steps K' (P x)) ⟨rfl,?_⟩ ?_ ?_
   rotate_left
   ·rintro x0 r G Q' K' hk ⟨rfl,hq⟩
    exact hk _ _ trivial ⟨rfl,hq⟩
   ·rintro G Q' ⟨rfl,hq⟩;exact hq
   ·apply ok_mk (boolsOf_map (λp:(Nat×Row)×(Nat×Row)=>!(p.1.1==p.2.1)) (K'.zip (P x)))
    have e:((K'.zip (P x)).map λp=>!(p.1.1==p.2.1)).any id=(K'.zip (P x)).any λp=>!(p.1.1==p.2.1):=List.any_map
    cases hany:(K'.zip (P x)).any λp=>!(p.1.1==p.2.1) with
    |true=>exact yes (e.trans hany) (store (c2 hany))
    |false=>exact no (e.trans hany) (same (c1 hany))
 ·rintro ρ H' ⟨dn,Pc,c,j4,j5,j6,j7,j8,hdn,rfl,old,hBc,hdone,hrest,hc0,hc1⟩
  have hdn:dn=[0,1,2,3]:=by simpa using hdn
  subst hdn
  refine h Pc L c H' hfix hus (λi a b=>hdone i (by rcases i4 a b with rfl|rfl|rfl|rfl<;>simp)) hBc (ex1.old.trans old) hc0 λe=>?_
  obtain⟨i,hi,hne⟩:=hc1 e
  exact⟨i,by simp at hi;lia,by simp at hi;lia,hne⟩
noncomputable def isSlot:Row→Bool:=@λy_1=>match @y_1 with
 |.slot ..=>true
 |x_1=>false
noncomputable def allP (P:Prg):List (Nat×Row):=([0,1,2,3]:List Int).flatMap P
noncomputable def slotP (P:Prg):List (Nat×Row):=(allP P).filter λp=>isSlot p.2
theorem opEq_slot {H:AHeap}(r:Row):opCm H .eq (.str r.op) (.str "slot")=some (isSlot r):=by
 refine rwI (opEq_str ..) ?_
 cases r with
 |bin o _ _ _=>cases o<;>rfl
 |_=>rfl
theorem slot_steps_ok (n:Nat){H:AHeap} {ly P E}{Q:AV→AHeap→Prop}(hB:BodyAt H ly P E)(hl:(allP P).length≤4000)(h:Q (.lst (stepsV (slotP P))) H):Cn tabP (n+1) 15 [bodyV ly] H Q:=by
 refine enter rfl rfl ?_
 intro fo hfo
 refine forL_mapE (l:=[0,1,2,3]) (λi=>AV.ref (ly.b i)) (λl ρ H'=>(∀ i∈l,0≤i∧i < 4)∧Ex4 λacc rest j2 j3=>And4 (ρ=[some (bodyV ly),some (.ref fo),j2,j3]) (H'=upd H fo (.list (stepsV acc))) (acc++(l.flatMap P).filter (λp=>isSlot p.2)=slotP P) (rest++l.flatMap P=allP P)) rfl
   ⟨by decide,[],[],_,_,rfl,rfl,rfl,rfl⟩ ?_ ?_
 ·rintro i l ρ H' K K1 K2 K3 ⟨hl4,acc,rest,j2,j3,rfl,rfl,hacc,hrest⟩
  obtain⟨i0,i1⟩:=hl4 i (.head _)
  have hB':∀ L,BodyAt (upd H fo (.list L)) ly P E:=λL=>hB.ext (Ext.new hfo)
  have es:∀ L,attrOf (upd H fo (.list L)) 1 1 (.ref (ly.b i))=some (.lst (stepsV (P i))):=λL=>blk_attr 1 (hB' L i i0 i1).1 (hB' L i i0 i1).2
  apply ok_mk (es _)
  refine forL_map (λp:Nat×Row=>stepV p.1 p.2) (λl2 ρ H'=>Ex3 λacc2 rest2 j3=>And4 (ρ=[some (bodyV ly),some (.ref fo),some (.ref (ly.b i)),j3]) (H'=upd H fo (.list (stepsV acc2))) (acc2++l2.filter (λp=>isSlot p.2)++(l.flatMap P).filter (λp=>isSlot p.2)=slotP P) (rest2++l2++l.flatMap P=allP P)) ?_ ?_ (P i) _ _
   ⟨acc,rest,_,rfl,rfl,by (refine rwS hacc ?_;refine rwI List.flatMap_cons ?_;refine rwI (List.filter_append ..) ?_;refine rwI (List.append_assoc ..) ?_;rfl),by (refine rwS hrest ?_;refine rwI List.flatMap_cons ?_;refine rwI (List.append_assoc ..) ?_;rfl)⟩
  ·rintro x0 l2 ρ H' K' K1' K2' K3' ⟨acc2,rest2,j3,rfl,rfl,ha2,hr2⟩
   obtain⟨a,r⟩:=x0
   have hlen:acc2.length≤4000:=by
    have h1:=congrArg List.length ha2
    have h2:(slotP P).length≤(allP P).length:=List.length_filter_le ..
    simp at h1;lia
   have hr3:(rest2++[(a,r)])++l2++l.flatMap P=allP P:=by refine rwS hr2 ?_;simp
   have hsl:(r.op == "slot")=isSlot r:=Option.some.inj (opEq_slot (H:=H) r)
   refine bcase (b:=isSlot r) (λhs=>?_) λhs=>?_
   ·
    apply no (hsl.trans hs)
    refine K1' _ _ trivial ⟨acc2,_,_,rfl,rfl,?_,hr3⟩
    (refine rwS ha2 ?_;refine rwI List.filter_cons ?_;refine rwI hs ?_);simp
   ·
    apply yes (hsl.trans hs)
    refine app_i (upd_self ..) (by refine rwI (stepsV_len ..) ?_;lia) ?_
    refine rwI (upd_upd ..) ?_
    refine K1' _ _ trivial ⟨acc2++[(a,r)],_,_,rfl,by simp[stepsV],?_,hr3⟩
    (refine rwS ha2 ?_;refine rwI List.filter_cons ?_;refine rwI hs ?_);simp
  ·rintro ρ H' ⟨acc2,rest2,j3,rfl,rfl,ha2,hr2⟩
   exact K1 _ _ trivial ⟨λj hj=>hl4 j (.tail _ hj),acc2,rest2,_,_,rfl,rfl,by refine rwS ha2 ?_;simp,by refine rwS hr2 ?_;simp⟩
 ·rintro ρ H' ⟨_,acc,rest,j2,j3,rfl,rfl,hacc,_⟩
  have:acc=slotP P:=by simpa using hacc
  subst this
  apply ghost_i
  ·exact .frzVar (n:=1) rfl (upd_self ..)
  refine rwI (del_upd_none hfo) ?_
  exact h
theorem putE_look (es:List (Int×AV))(i j:Int)(v:AV):(putE es i v).lookup j=if j=i then some v else es.lookup j:=by
 induction es with
 |nil=>
  refine (?_:List.lookup j [(i,v)]=_)
  simp only[List.lookup_cons,List.lookup_nil]
  by_cases e:j=i
  ·subst e;simp
  ·have:(j==i)=false:=by simpa using e
   simp[this,e]
 |cons p es ih=>
  obtain⟨k,w⟩:=p
  refine rwI putE_c ?_
  by_cases hk:k=i
  ·refine rwI (if_pos hk) ?_;subst hk
   simp only[List.lookup_cons]
   by_cases e:j=k
   ·subst e;simp
   ·have:(j==k)=false:=by simpa using e
    simp[this,e]
  ·refine rwI (if_neg hk) ?_
   simp only[List.lookup_cons,ih]
   by_cases e:j=k
   ·subst e;simp[hk]
   ·have:(j==k)=false:=by simpa using e
    simp[this]
theorem putE_len (es:List (Int×AV))(i:Int)(v:AV):(putE es i v).length≤es.length+1:=by
 induction es with
 |nil=>exact Nat.le_refl 1
 |cons p es ih=>
  obtain⟨k,w⟩:=p
  refine rwI putE_c ?_
  split<;>simp
  lia
theorem filter_look (es:List (Int×AV))(i j:Int):(es.filter λp=>p.1 != i).lookup j=if j=i then none else es.lookup j:=by
 induction es with
 |nil=>simp
 |cons p es ih=>
  obtain⟨k,w⟩:=p
  by_cases hk:k=i
  ·subst hk
   simp only[List.filter_cons,bne_self_eq_false,Bool.false_eq_true,if_false,ih,List.lookup_cons]
   by_cases e:j=k
   ·simp[e]
   ·have:(j==k)=false:=by simpa using e
    simp[this]
  ·have:(k != i)=true:=by simpa using hk
   simp only[List.filter_cons,this,if_true,List.lookup_cons,ih]
   by_cases e:j=k
   ·subst e;simp[hk]
   ·have:(j==k)=false:=by simpa using e
    simp[this]
noncomputable def pcount (x:Int):Nat:=if x∈([0,1,7,8,9,10]:List Int) then 1 else 0
noncomputable def cntD (l:List (Nat×Row)) (x:Int):Nat:=l.countP λp=>p.2.dst==x
noncomputable def numV (k:Nat):Option AV:=match k with|0=>none|k+1=>some (.int (k+1:Nat))
theorem times_set_ok (n:Nat){H:AHeap} {ly P E ad A}{Q:AV→AHeap→Prop}(hB:BodyAt H ly P E)(hA:DictAt H ad A)(hl:(allP P).length≤4000)
  (h:∀ od es,H od=none→(∀ x,(A x).isSome=true→es.lookup x=numV (pcount x+cntD (allP P) x))→Q (.ref od) (upd H od (.dict es))):Cn tabP (n+1) 16 [bodyV ly,.ref ad] H Q:=by
 refine enter rfl rfl ?_
 obtain⟨as,ha,hlk⟩:=hA
 intro od hod
 refine forL_mapE (l:=[0,1,7,8,9,10]) AV.int (λl ρ H'=>Ex3 λdn es j3=>And5 (dn++l=[0,1,7,8,9,10]) (ρ=[some (bodyV ly),some (.ref ad),some (.ref od),j3,none,none]) (H'=upd H od (.dict es)) (es.length≤dn.length) (∀ x,es.lookup x=if x∈dn then some (.int 1) else none)) rfl
   ⟨[],[],_,rfl,rfl,rfl,Nat.le_refl _,λx=>by rfl⟩ ?_ ?_
 ·rintro x l ρ H' K K1 K2 K3 ⟨dn,es,j3,hdn,rfl,rfl,hln,hes⟩
  have hlen:dn.length+(l.length+1)=6:=by have:=congrArg List.length hdn;simpa using this
  refine opSetI_dict (upd_self ..) (by lia) ?_
  refine rwI (upd_upd ..) ?_
  refine K1 _ _ trivial ⟨dn++[x],_,_,by refine rwS hdn ?_;simp,rfl,rfl,by have:=putE_len es x (.int 1);simp;lia,λy=>?_⟩
  (refine rwI (putE_look ..) ?_;refine rwI (hes ..) ?_)
  by_cases e:y=x
  ·simp[e]
  ·simp[e]
 ·rintro ρ H' ⟨dn,es,j3,hdn,rfl,rfl,hln,hes⟩
  have hdn:dn=[0,1,7,8,9,10]:=by simpa using hdn
  subst hdn
  have hnum:∀ x,es.lookup x=numV (pcount x+cntD [] x):=λx=>by
   refine rwI (hes ..) ?_;unfold pcount cntD;split<;>rfl
  have hln:es.length≤6:=hln
  have hB':∀ L,BodyAt (upd H od (.dict L)) ly P E:=λL=>hB.ext (Ext.new hod)
  have ha':∀ L,upd H od (.dict L) ad=some (.dict as):=λL=>keepN hod ha
  refine forL_mapE (l:=[0,1,2,3]) (λi=>AV.ref (ly.b i)) (λl ρ H'=>(∀ i∈l,0≤i∧i < 4)∧Ex4 λdn es j4 j5=>And5 (ρ=[some (bodyV ly),some (.ref ad),some (.ref od),j3,j4,j5]) (H'=upd H od (.dict es)) (dn++l.flatMap P=allP P) (es.length≤6+dn.length) (∀ x,(A x).isSome=true→es.lookup x=numV (pcount x+cntD dn x))) rfl
    ⟨by decide,[],es,_,_,rfl,rfl,rfl,hln,λx x_=>hnum x⟩ ?_ ?_
  ·rintro i l ρ H' K K1 K2 K3 ⟨hl4,dn,es,j4,j5,rfl,rfl,hdn,hln,hes⟩
   obtain⟨i0,i1⟩:=hl4 i (.head _)
   have est:∀ L,attrOf (upd H od (.dict L)) 1 1 (.ref (ly.b i))=some (.lst (stepsV (P i))):=λL=>blk_attr 1 (hB' L i i0 i1).1 (hB' L i i0 i1).2
   apply ok_mk (est _)
   refine forL_map (λp:Nat×Row=>stepV p.1 p.2) (λl2 ρ H'=>Ex3 λdn2 es j5=>And5 (ρ=[some (bodyV ly),some (.ref ad),some (.ref od),j3,some (.ref (ly.b i)),j5]) (H'=upd H od (.dict es)) (dn2++l2++l.flatMap P=allP P) (es.length≤6+dn2.length) (∀ x,(A x).isSome=true→es.lookup x=numV (pcount x+cntD dn2 x))) ?_ ?_ (P i) _ _
    ⟨dn,es,_,rfl,rfl,by (refine rwS hdn ?_;refine rwI List.flatMap_cons ?_;refine rwI (List.append_assoc ..) ?_;rfl),hln,hes⟩
   ·rintro x0 l2 ρ H' K' K1' K2' K3' ⟨dn2,es,j5,rfl,rfl,hd2,hln2,hes2⟩
    obtain⟨a,r⟩:=x0
    have hlen:dn2.length≤4000:=by have:=congrArg List.length hd2;simp at this;lia
    have hd3:(dn2++[(a,r)])++l2++l.flatMap P=allP P:=by refine rwS hd2 ?_;simp
    have cnt1:∀ x,cntD (dn2++[(a,r)]) x=cntD dn2 x+if r.dst=x then 1 else 0:=λx=>by
     unfold cntD;refine rwI List.countP_append ?_;simp[List.countP_cons]
    apply ok_mk (opIn_dict (ha' _))
    (refine rwI (hlk ..) ?_;refine rwI Option.isSome_map ?_)
    cases hs:(A r.dst).isSome with
    |false=>
     refine K1' _ _ trivial ⟨_,es,_,rfl,rfl,hd3,by simp;lia,λx hx=>?_⟩
     (refine rwI (cnt1 ..) ?_;refine rwI (if_neg (λe=>by rw[e,hx] at hs;exact nomatch hs)) ?_);exact hes2 x hx
    |true=>
     refine get_i (upd_self ..) ?_
     have hv:(es.lookup r.dst).getD (.int 0)=.int (pcount r.dst+cntD dn2 r.dst:Nat):=by
      refine rwI (hes2 _ hs) ?_;cases pcount r.dst+cntD dn2 r.dst<;>rfl
     refine rwI hv ?_
     refine opSetI_dict (upd_self ..) (by lia) ?_
     refine rwI (upd_upd ..) ?_
     refine K1' _ _ trivial ⟨_,_,_,rfl,rfl,hd3,Nat.le_trans (putE_len ..) (by simp;lia),λx hx=>?_⟩
     (refine rwI (putE_look ..) ?_;refine rwI (cnt1 ..) ?_)
     by_cases e:x=r.dst
     ·subst e;simp only[if_true];rfl
     ·(refine rwI (if_neg e) ?_;refine rwI (if_neg (Ne.symm e)) ?_);exact hes2 x hx
   ·rintro ρ H' ⟨dn2,es,j5,rfl,rfl,hd2,hln2,hes2⟩
    exact K1 _ _ trivial ⟨λj hj=>hl4 j (.tail _ hj),dn2,es,_,_,rfl,rfl,by refine rwS hd2 ?_;simp,hln2,hes2⟩
  ·rintro ρ H' ⟨_,dn,es,j4,j5,rfl,rfl,hdn,hln,hes⟩
   have hdn:dn=allP P:=by simpa using hdn
   subst hdn
   exact h od es hod hes
noncomputable def hasD (l:List (Nat×Row)) (x:Int):Bool:=l.any λp=>p.2.dst==x
noncomputable def adrOf (P:Prg):Adr:=λx=>if x≠1∧hasD (slotP P) x=true then some (x - 2) else none
noncomputable def tak0 (P:Prg):ISet:=λi=>i==0&&hasD (slotP P) 1
noncomputable def SlotRows (P:Prg):Prop:=(∀ p∈slotP P,∃ x s,p.2=.slot x s∧((x=s+2∧0≤s∧s < 4)∨(x=1∧s=0)))∧∀ x,2≤x→x < 6→cntD (allP P) x≤1
noncomputable def sOf (x:Int):Int:=if x=1 then 0 else x - 2
theorem hasD_snoc (l:List (Nat×Row))(p:Nat×Row)(x:Int):hasD (l++[p]) x=(hasD l x||p.2.dst==x):=by simp[hasD,List.any_append]
theorem cntD_pos {l:List (Nat×Row)}{p:Nat×Row}(h:p∈l):1≤cntD l p.2.dst:=by
 unfold cntD
 exact List.countP_pos_iff.mpr ⟨p,h,by simp⟩
noncomputable def sReg (x s:Int):Prop:=(x=s+2∧0≤s∧s < 4)∨(x=1∧s=0)
theorem sReg.eq {x s:Int}(h:sReg x s):s=sOf x:=by
 unfold sOf
 rcases h with⟨h1,h2,h3⟩|⟨h1,h2⟩
 ·refine rwI (if_neg (by lia)) ?_;lia
 ·refine rwI (if_pos h1) ?_;exact h2
structure RA (H G:AHeap)(sl tk:Nat)(dn:List (Nat×Row))(es:List (Int×AV)):Prop where
 ex:Ext H G
 hsl:H sl=none
 htk:H tk=none
 nst:tk≠sl
 g1:G sl=some (.dict es)
 g2:G tk=some (.set λx_=>false)
 ln:es.length≤dn.length
 es:∀ x,es.lookup x=if hasD dn x=true then some (.int (sOf x)) else none
structure RB (H G:AHeap)(P:Prg)(sl tk od:Nat)(ods:List (Int×AV))(dn:List (Nat×Row))(es:List (Int×AV)):Prop where
 ex:Ext H G
 hsl:H sl=none
 htk:H tk=none
 nst:tk≠sl
 nod:od≠sl
 g0:G od=some (.dict ods)
 g1:G sl=some (.dict es)
 g2:G tk=some (.set λi=>i==0&&hasD dn 1)
 es:∀ x,es.lookup x=if (x=1∧hasD dn 1=true) then none else if hasD (slotP P) x=true then some (.int (sOf x)) else none
section
variable {H G:AHeap}{P:Prg}{sl tk od a:Nat}{ods es:List (Int×AV)}{dn:List (Nat×Row)}{x s:Int}
theorem RA.step (R:RA H G sl tk dn es)(hs:s=sOf x)(hl:dn.length≤4000){Q:AHeap→Prop}(q:∀ G es,RA H G sl tk (dn++[(a,.slot x s)]) es→Q G):opSetI G (.ref sl) (.int x) (.int s) Q:=by
 have l:=R.ln
 refine setd_i R.g1 (by lia) (q _ _ ⟨R.ex.set R.hsl,R.hsl,R.htk,R.nst,upd_self ..,(upd_ne _ R.nst).trans R.g2,Nat.le_trans (putE_len ..) (by refine rwI List.length_append ?_;exact Nat.succ_le_succ l),λy=>?_⟩)
 (refine rwI (putE_look ..) ?_;refine rwI (hasD_snoc ..) ?_;refine rwI (R.es ..) ?_;refine rwI hs ?_)
 refine (?_:_=if (hasD dn y||x==y)=true then _ else _)
 by_cases e:y=x
 ·(refine rwI (if_pos e) ?_;refine rwI e ?_;refine rwI (beq_self_eq_true ..) ?_;refine rwI (Bool.or_true ..) ?_);rfl
 ·(refine rwI (if_neg e) ?_;refine rwI (show (x==y)=false from beq_eq_false_iff_ne.mpr (Ne.symm e)) ?_;refine rwI (Bool.or_false ..) ?_;rfl)
theorem RB.skip (R:RB H G P sl tk od ods dn es)(h:x≠1):RB H G P sl tk od ods (dn++[(a,.slot x s)]) es:=by
 have nd:hasD (dn++[(a,.slot x s)]) 1=hasD dn 1:=by
  (refine rwI (hasD_snoc ..) ?_;refine rwI (show ((Row.slot x s).dst==1)=false from beq_eq_false_iff_ne.mpr h) ?_;refine rwI (Bool.or_false ..) ?_;rfl)
 exact⟨R.ex,R.hsl,R.htk,R.nst,R.nod,R.g0,R.g1,by refine rwI nd ?_;exact R.g2,by refine rwI nd ?_;exact R.es⟩
theorem RB.one (R:RB H G P sl tk od ods dn es){Q:AV→AHeap→Prop}(q:∀ v G es,RB H G P sl tk od ods (dn++[(a,.slot 1 0)]) es→Q v G):isSe G (.ref tk)∧opAdd G (.ref tk) (.int 0) λx_ G=>isDi G (.ref sl)∧opDpop G (.ref sl) (.int 1) Q:=by
 have nd:hasD (dn++[(a,.slot 1 0)]) 1=true:=by refine rwI (hasD_snoc ..) ?_;exact Bool.or_true _
 refine add_i R.g2 (by decide) (by decide) (dpop_i (i:=1) ((upd_ne _ R.nst.symm).trans R.g1) (q _ _ _ ⟨(R.ex.set R.htk).set R.hsl,R.hsl,R.htk,R.nst,R.nod,(upd_ne _ R.nod).trans ((upd_ne _ (ne_of_objs R.g0 R.g2 nofun)).trans R.g0),upd_self ..,?_,λy=>?_⟩))
 ·(refine rwI (upd_ne _ R.nst) ?_;refine rwI (upd_self ..) ?_;refine rwI nd ?_)
  exact congrArg (λm=>some (AObj.set m)) (funext λi=>by cases hasD dn 1<;>cases i==0<;>rfl)
 ·(refine rwI (filter_look ..) ?_;refine rwI (R.es ..) ?_;refine rwI nd ?_)
  by_cases e:y=1
  ·(refine rwI (if_pos e) ?_;refine rwI (if_pos ⟨e,rfl⟩) ?_;rfl)
  ·(refine rwI (if_neg e) ?_;refine rwI (if_neg (show ¬(y=1∧hasD dn 1=true) from λh=>e h.1)) ?_;refine rwI (if_neg (show ¬(y=1∧true=true) from λh=>e h.1)) ?_;rfl)
theorem RA.dict (R:RA H G sl tk dn es):DictAt G sl (λx=>if hasD dn x=true then some (sOf x) else none):=⟨es,R.g1,λx=>by
 refine rwI (R.es ..) ?_
 refine (?_:_=Option.map AV.int (if hasD dn x=true then some (sOf x) else none))
 cases hasD dn x<;>rfl⟩
theorem RB.fin (R:RB H G P sl tk od ods (slotP P) es):DictAt G sl (adrOf P):=⟨es,R.g1,λx=>by
 refine rwI (R.es ..) ?_
 unfold adrOf sOf
 by_cases e:x=1
 ·subst e
  rw[if_neg (show ¬((1:Int)≠1∧hasD (slotP P) 1=true) from λh=>h.1 rfl)]
  cases hasD (slotP P) 1<;>rfl
 ·(refine rwI (if_neg (show ¬(x=1∧hasD (slotP P) 1=true) from λh=>e h.1)) ?_;refine rwI (if_neg e) ?_)
  by_cases q:hasD (slotP P) x=true
  ·(refine rwI (if_pos q) ?_;refine rwI (if_pos ⟨e,q⟩) ?_);rfl
  ·(refine rwI (if_neg q) ?_;refine rwI (if_neg λh=>q h.2) ?_);rfl⟩
end
theorem hasD_in {l:List (Nat×Row)}{p:Nat×Row}(h:p∈l):hasD l p.2.dst=true:=List.any_eq_true.mpr ⟨p,h,beq_self_eq_true _⟩
theorem cnt_one {P:Prg}(hr2:∀ x,2≤x→x < 6→cntD (allP P) x≤1){x s:Int}(h:x=s+2∧0≤s∧s < 4)(hp:1≤cntD (allP P) x):pcount x+cntD (allP P) x=1:=by
 obtain⟨rfl,s0,s1⟩:=h
 have h2:=hr2 (s+2) (Int.le_add_of_nonneg_left s0) (Int.add_lt_add_right s1 2)
 obtain⟨k,rfl⟩:=Int.eq_ofNat_of_zero_le s0
 (refine rwI ((by decide:∀ k:Nat,k < 4→pcount (k+2)=0) k (Int.ofNat_lt.mp s1)) ?_;refine rwI (Nat.zero_add ..) ?_)
 exact Nat.le_antisymm h2 hp
theorem slot_registers_ok (n:Nat){H:AHeap} {ly P E}{Q:AV→AHeap→Prop}(hB:BodyAt H ly P E)(hl:(allP P).length≤4000)(hr:SlotRows P)
  (h:∀ sl tk H',Ext H H'→H sl=none→H tk=none→DictAt H' sl (adrOf P)→H' tk=some (.set (tak0 P))→Q (.tup [.ref sl,.ref tk]) H'):Cn tabP (n+2) 17 [bodyV ly] H Q:=by
 refine enter rfl rfl ?_
 obtain⟨hr1,hr2⟩:=hr
 have hsub:∀ p∈slotP P,p∈allP P:=λp hp=>(List.mem_filter.mp hp).1
 have hlS:(slotP P).length≤4000:=Nat.le_trans (List.length_filter_le ..) hl
 intro sl hsl
 intro tk htk
 have nst:=(new_ne htk).1
 have e2:=(Ext.new (o:=.dict []) hsl).trans (Ext.new (o:=.set λx_=>false) htk)
 refine slot_steps_ok n (hB.ext e2) hl ?_
 refine forL_map (λp:Nat×Row=>stepV p.1 p.2) (λl ρ H'=>Ex3 λdn es j4=>And3 (dn++l=slotP P) (ρ=[some (bodyV ly),some (.ref sl),some (.ref tk),some (.lst (stepsV (slotP P))),j4,none]) (RA H H' sl tk dn es)) ?_ ?_ (slotP P) _ _
   ⟨[],[],_,rfl,rfl,e2,hsl,(new_ne htk).2,nst,(upd_ne _ nst.symm).trans (upd_self ..),upd_self ..,Nat.le_refl _,λx=>rfl⟩
 ·clear h e2 htk hsl hB nst hsub hr2
  rintro x0 l ρ H' K K1 K2 K3 ⟨dn,es,j4,hdn,rfl,R⟩
  obtain⟨a,r⟩:=x0
  obtain⟨x,s,hrs,hxs⟩:=hr1 _ (mid_mem hdn)
  have hrs:r=.slot x s:=hrs
  subst hrs
  exact R.step (sReg.eq hxs) (Nat.le_trans (Nat.le_of_lt (mid_len hdn)) hlS) λG es R=>K1 _ _ trivial ⟨dn++[(a,.slot x s)],_,_,mid_next hdn,rfl,R⟩
 ·clear e2 htk hsl nst
  rintro ρ H' ⟨dn,es,j4,hdn,rfl,R⟩
  rw[mid_end hdn] at R
  apply ok_mk (truth_dict R.g1)
  have hA:=R.dict
  have rest:∀ od H2 ods,Ext H' H2→H2 od=some (.dict ods)→od≠sl→(∀ p∈slotP P,ods.lookup p.2.dst=numV (pcount p.2.dst+cntD (allP P) p.2.dst)) →
    wB (Cn tabP (n+1)) [.forr (.one 4) .plain [.v 3] [.iff (.cmp .ne (.idx (.v 5) (.attr (.v 4) 0 1)) (.int 1)) [.ex (.add (.v 2) (.attr (.v 4) 0 3)),.ex (.dpop (.v 1) (.attr (.v 4) 0 1))] []],.ret (.tup [.v 1,.v 2])]
     [some (bodyV ly),some (.ref sl),some (.ref tk),some (.lst (stepsV (slotP P))),j4,some (.ref od)] H2 (λf x_ H'=>Q (retOf f) H'):=by
   intro od H2 ods ex2 god nod hods
   refine forL_map (λp:Nat×Row=>stepV p.1 p.2) (λl ρ H3=>Ex3 λdn es j4=>And3 (dn++l=slotP P) (ρ=[some (bodyV ly),some (.ref sl),some (.ref tk),some (.lst (stepsV (slotP P))),j4,some (.ref od)]) (RB H H3 P sl tk od ods dn es)) ?_ ?_ (slotP P) _ _
     ⟨[],es,_,rfl,rfl,R.ex.trans ex2,R.hsl,R.htk,R.nst,nod,god,ex2 _ _ R.g1,(ex2 _ _ R.g2).trans (congrArg (λm=>some (AObj.set m)) (funext λi=>(Bool.and_false _).symm)),λx=>(R.es x).trans (if_neg λh=>Bool.false_ne_true h.2).symm⟩
   ·clear R h hA ex2 god nod
    rintro x0 l ρ H3 K K1 K2 K3 ⟨dn,es3,j4,hdn,rfl,R⟩
    obtain⟨a,r⟩:=x0
    have hm:=mid_mem hdn
    obtain⟨x,s,hrs,hxs⟩:=hr1 _ hm
    have hrs:r=.slot x s:=hrs
    subst hrs
    have hpos:1≤cntD (allP P) x:=cntD_pos (hsub _ hm)
    have hlx:ods.lookup x=numV (pcount x+cntD (allP P) x):=hods _ hm
    have hv:ods.lookup x=some (.int (pcount x+cntD (allP P) x:Nat)):=by
     refine rwI hlx ?_
     cases e:pcount x+cntD (allP P) x with
     |zero=>lia
     |succ k=>rfl
    apply ok_mk ((getIx_dict R.g0).trans hv)
    rcases hxs with hx|⟨h1,h2⟩
    ·refine rwI (cnt_one hr2 hx hpos) ?_
     exact K1 _ _ trivial ⟨dn++[(a,.slot x s)],es3,_,mid_next hdn,rfl,R.skip (by lia)⟩
    ·subst h1 h2
     have h1:pcount 1=1:=by decide
     apply yes (notf (show ((((pcount 1+cntD (allP P) 1:Nat):Int))==1)=false from beq_eq_false_iff_ne.mpr (by lia)))
     exact R.one λv G es R=>K1 _ _ trivial ⟨dn++[(a,.slot 1 0)],_,_,mid_next hdn,rfl,R⟩
   ·clear R hA
    rintro ρ H3 ⟨dn,es3,j4,hdn,rfl,R⟩
    rw[mid_end hdn] at R
    exact h sl tk H3 R.ex R.hsl R.htk R.fin R.g2
  refine bcase (b:=es.isEmpty) (λhne=>?_) λhne=>?_
  ·apply yes (notf hne)
   refine times_set_ok n (hB.ext R.ex) hA hl λod ods hod hods=>?_
   refine rest od _ ods (Ext.new hod) (upd_self ..) (λe=>none_some (hod.symm.trans (e ▸ R.g1))) λp hp=>hods _ ?_
   refine rwI (hasD_in hp) ?_;rfl
  ·apply no (nott hne)
   intro od hod
   refine rest od _ [] (Ext.new hod) (upd_self ..) (λe=>none_some (hod.symm.trans (e ▸ R.g1))) λp hp=>?_
   have:=R.es p.2.dst
   rw[List.isEmpty_iff.mp hne,hasD_in hp] at this
   exact none_some this
noncomputable def plainSt (r:Row) (place s:Int):Bool:=match r with
 |.store _ _ w f=>place==0 && !f&&decide (w≤sizeS s)
 |_=>false
theorem is_plain_store_ok (n:Nat){H:AHeap} {ly a r place s}{Q:AV→AHeap→Prop}(hs:0≤s∧s < 4)(h:Q (.bool (plainSt r place s)) H):Cn tabP (n+1) 25 [bodyV ly,stepV a r,.int place,.int s] H Q:=by
 refine enter rfl rfl ?_
 cases r with
 |store x y w f=>
  refine bcase (b:=place==0) (λhp=>?_) λhp=>?_
  ·
   have h:Q (.bool ((place==0) && !f&&decide (w≤sizeS s))) H:=h
   rw[hp] at h
   apply yes (notf hp)
   exact yes (notf hp) h
  ·
   have h:Q (.bool ((place==0) && !f&&decide (w≤sizeS s))) H:=h
   rw[hp] at h
   apply no (nott hp)
   cases f with
   |true=>exact h
   |false=>
    have hs':s=0∨s=1∨s=2∨s=3:=by lia
    rcases hs' with rfl|rfl|rfl|rfl<;>exact h
 |bin o _ _ _=>cases o<;>exact h
 |_=>exact h
noncomputable def isSto (A:Adr) (T:ISet):Row→Bool:=@λy_1=>match @y_1 with
 |.store (.r x) x_1 x_2 x_3=>match A x with
  |some s=>!(T s)
  |none=>false
 |x_1=>false
theorem is_store_to_ok (n:Nat){H:AHeap} {a r ad tk A T}{Q:AV→AHeap→Prop}(hA:DictAt H ad A)(hT:H tk=some (.set T))(h:Q (.bool (isSto A T r)) H):Cn tabP (n+1) 27 [stepV a r,.ref ad,.ref tk] H Q:=by
 obtain⟨es,ha,he⟩:=hA
 refine enter rfl rfl ?_
 cases r with
 |store x y w f=>
  cases x with
  |k v=>exact h
  |r x=>
   apply ok_mk (opIn_dict ha)
   have hl:=he x
   refine ocase (o:=A x) (λhx=>?_) λs hx=>?_
   ·
    rw[hx] at hl
    have h:Q (.bool (match A x with|some s=>!(T s)|none=>false)) H:=h
    rw[hx] at h
    refine no (by refine rwI hl ?_;rfl) ?_
    refine rwI hl ?_;exact h
   ·
    rw[hx] at hl
    have h:Q (.bool (match A x with|some s=>!(T s)|none=>false)) H:=h
    rw[hx] at h
    refine yes (by refine rwI hl ?_;rfl) ?_
    apply ok_mk ((getIx_dict ha).trans hl)
    apply ok_mk (opNotin_set hT)
    exact h
 |bin o _ _ _=>cases o<;>exact h
 |_=>exact h
noncomputable def en:Int→List Opd→List (Int×Opd):=@λy_1=>@λy_2=>match @y_1,@y_2 with
 |x_1,[]=>[]
 |n,o::l=>(n,o)::en (n+1) l
theorem en_map:∀ (n:Int)(l:List Opd),enumFrom n (l.map opdV)=(en n l).map λp=>.tup [.int p.1,opdV p.2]:=@λy_1=>@λy_2=>match @y_1,@y_2 with
 |x_1,[]=>rfl
 |n,o::l=>congrArg (AV.tup [.int n,opdV o] :: ·) (en_map (n+1) l)
noncomputable def addS (m:ISet) (s:Int):ISet:=λj=>m j||j==s
noncomputable def addOpd (A:Adr) (r:Row) (m:ISet) (p:Int×Opd):ISet:=match p.2 with
 |.r x=>(match A x with
  |some s=>(match plainSt r p.1 s with|true=>m|false=>addS m s)
  |none=>m)
 |.k _=>m
noncomputable def addEndO (A:Adr) (m:ISet) (o:Opd):ISet:=match o with
 |.r x=>(match A x with|some s=>addS m s|none=>m)
 |.k _=>m
noncomputable def addRow (A:Adr) (m:ISet) (p:Nat×Row):ISet:=(en 0 p.2.args).foldl (addOpd A p.2) m
noncomputable def takB (A:Adr) (P:Prg) (E:Ens) (m:ISet) (i:Int):ISet:=(E i).args.foldl (addEndO A) ((P i).foldl (addRow A) m)
noncomputable def takT (A:Adr) (P:Prg) (E:Ens) (m:ISet):ISet:=([0,1,2,3]:List Int).foldl (takB A P E) m
theorem taken_slots_ok (n:Nat){H:AHeap} {ly P E ad tk A T}{Q:AV→AHeap→Prop}(hB:BodyAt H ly P E)(hA:DictAt H ad A)(hs:SlotsOk A)(hT:H tk=some (.set T))
  (h:∀ f,H f=none→Q (.ref f) (upd H f (.set (takT A P E T)))):Cn tabP (n+2) 26 [bodyV ly,.ref ad,.ref tk] H Q:=by
 obtain⟨es,ha,he⟩:=hA
 refine enter rfl rfl ?_
 apply ok_mk (setOfV_set hT)
 intro f hf
 have hB':∀ m,BodyAt (upd H f (.set m)) ly P E:=λm=>hB.ext (Ext.new hf)
 have ha':∀ m,upd H f (.set m) ad=some (.dict es):=λm=>keepN hf ha
 clear hB ha hT
 refine forL_mapE (l:=[0,1,2,3]) (λi=>AV.ref (ly.b i)) (λl ρ H'=>(∀ i∈l,0≤i∧i < 4)∧Ex8 λm j4 j5 j6 j7 j8 j9 j10=>And3 (ρ=[some (bodyV ly),some (.ref ad),some (.ref tk),some (.ref f),j4,j5,j6,j7,j8,j9,j10]) (H'=upd H f (.set m)) (l.foldl (takB A P E) m=takT A P E T)) rfl
  ⟨by decide,_,_,_,_,_,_,_,_,rfl,rfl,rfl⟩ ?_ ?_
 ·rintro i l ρ H' K K1 K2 K3 ⟨hl4,m,j4,j5,j6,j7,j8,j9,j10,rfl,rfl,hm⟩
  obtain⟨i0,i1⟩:=hl4 i (.head _)
  have fin:=λm j5 j6 j7 j8 j9 j10 hm=>K1 _ _ trivial ⟨λj hj=>hl4 j (.tail _ hj),m,some (.ref (ly.b i)),j5,j6,j7,j8,j9,j10,rfl,rfl,hm⟩
  rw[List.foldl_cons] at hm
  clear K1 K2 K3 hl4
  apply ok_mk (blk_attr 1 (hB' m i i0 i1).1 (hB' m i i0 i1).2)
  refine forL_map (λp:Nat×Row=>stepV p.1 p.2) (λl2 ρ H'=>Ex5 λm2 j5 j8 j9 j10=>And3 (ρ=[some (bodyV ly),some (.ref ad),some (.ref tk),some (.ref f),some (.ref (ly.b i)),j5,j6,j7,j8,j9,j10]) (H'=upd H f (.set m2)) (l2.foldl (addRow A) m2=(P i).foldl (addRow A) m)) ?_ ?_ (P i) _ _
   ⟨m,_,_,_,_,rfl,rfl,rfl⟩
  ·clear fin hm
   rintro x0 l2 ρ H' K' K1' K2' K3' ⟨m2,j5,j8,j9,j10,rfl,rfl,hm2⟩
   obtain⟨a,r⟩:=x0
   have fin:=λm3 j8 j9 j10 (hm3:m3=addRow A m2 (a,r))=>K1' _ _ trivial ⟨m3,some (stepV a r),j8,j9,j10,rfl,rfl,by refine rwI hm3 ?_;exact hm2⟩
   clear K1' K2' K3' hm2
   refine forL_mapE (l:=en 0 r.args) (λp:Int×Opd=>AV.tup [.int p.1,opdV p.2]) (λl3 ρ H'=>Ex4 λm3 j8 j9 j10=>And3 (ρ=[some (bodyV ly),some (.ref ad),some (.ref tk),some (.ref f),some (.ref (ly.b i)),some (stepV a r),j6,j7,j8,j9,j10]) (H'=upd H f (.set m3)) (l3.foldl (addOpd A r) m3=addRow A m2 (a,r)))
    (en_map 0 r.args) ⟨m2,_,_,_,rfl,rfl,rfl⟩ ?_ ?_
   ·clear fin
    rintro x0 l3 ρ H' K3 K1'' K2'' K3'' ⟨m3,j8,j9,j10,rfl,rfl,hm3⟩
    obtain⟨pl,o⟩:=x0
    have fin:=λm3 j8 j9 j10 hm3=>K1'' _ _ trivial ⟨m3,j8,j9,j10,rfl,rfl,hm3⟩
    rw[List.foldl_cons] at hm3
    clear K1'' K2'' K3''
    cases o with
    |k v=>exact fin m3 _ _ _ hm3
    |r x=>
     apply ok_mk (opIn_dict (ha' _))
     have hl:=he x
     refine ocase (o:=A x) (λhx=>?_) λs hx=>?_
     ·
      rw[hx] at hl
      refine no (by refine rwI hl ?_;rfl) ?_
      exact fin m3 _ _ _ (by simpa only[addOpd,hx] using hm3)
     ·
      rw[hx] at hl
      have hs4:=hs x s hx
      refine yes (by refine rwI hl ?_;rfl) ?_
      apply ok_mk ((getIx_dict (ha' _)).trans hl)
      refine is_plain_store_ok n hs4 ?_
      cases hp:plainSt r pl s with
      |true=>exact fin m3 _ _ _ (by simpa only[addOpd,hx,hp] using hm3)
      |false=>
       refine add_i (upd_self ..) hs4.1 (Int.lt_trans hs4.2 (by decide)) ?_
       refine rwI (upd_upd ..) ?_
       exact fin (addS m3 s) _ _ _ (by simpa only[addOpd,hx,hp] using hm3)
   ·rintro ρ H' ⟨m3,j8,j9,j10,rfl,rfl,hm3⟩
    exact fin m3 _ _ _ hm3
  ·rintro ρ H' ⟨m2,j5,j8,j9,j10,rfl,rfl,hm2⟩
   apply ok_mk (blk_attr 2 (hB' m2 i i0 i1).1 (hB' m2 i i0 i1).2)
   refine forL_map opdV (λl3 ρ H'=>Ex3 λm3 j6 j7=>And3 (ρ=[some (bodyV ly),some (.ref ad),some (.ref tk),some (.ref f),some (.ref (ly.b i)),j5,j6,j7,j8,j9,j10]) (H'=upd H f (.set m3)) (l3.foldl (addEndO A) m3=takB A P E m i)) ?_ ?_ (E i).args _ _
    ⟨m2,_,_,rfl,rfl,by rw[List.foldl_nil] at hm2;refine rwI hm2 ?_;rfl⟩
   ·clear fin hm2 hm
    rintro o l3 ρ H' K3 K1'' K2'' K3'' ⟨m3,j6,j7,rfl,rfl,hm3⟩
    have fin:=λm3 j6 j7 hm3=>K1'' _ _ trivial ⟨m3,j6,j7,rfl,rfl,hm3⟩
    rw[List.foldl_cons] at hm3
    clear K1'' K2'' K3''
    cases o with
    |k v=>exact fin m3 _ _ hm3
    |r x=>
     apply ok_mk (opIn_dict (ha' _))
     have hl:=he x
     refine ocase (o:=A x) (λhx=>?_) λs hx=>?_
     ·
      rw[hx] at hl
      refine no (by refine rwI hl ?_;rfl) ?_
      exact fin m3 _ _ (by simpa only[addEndO,hx] using hm3)
     ·
      rw[hx] at hl
      have hs4:=hs x s hx
      refine yes (by refine rwI hl ?_;rfl) ?_
      refine And.intro ⟨f,_,rfl,upd_self ..⟩ ?_
      apply ok_mk ((getIx_dict (ha' _)).trans hl)
      refine add_j (upd_self ..) hs4.1 (Int.lt_trans hs4.2 (by decide)) ?_
      refine rwI (upd_upd ..) ?_
      exact fin (addS m3 s) _ _ (by simpa only[addEndO,hx] using hm3)
   ·rintro ρ H' ⟨m3,j6,j7,rfl,rfl,hm3⟩
    exact fin m3 _ _ _ _ _ _ ((show m3=takB A P E m i from hm3) ▸ hm)
 ·rintro ρ H' ⟨_,m,j4,j5,j6,j7,j8,j9,j10,rfl,rfl,hm⟩
  rw[List.foldl_nil] at hm
  refine rwI hm ?_;exact h f hf
noncomputable def noSto (A:Adr) (T:ISet) (l:List (Nat×Row)):List (Nat×Row):=l.filter λp=>!isSto A T p.2
theorem noSto_same {A:Adr}{T:ISet}{l:List (Nat×Row)}(h:¬ (noSto A T l).length < l.length):noSto A T l=l:=by
 unfold noSto at h ⊢
 exact List.filter_eq_self.mpr (List.length_filter_eq_length_iff.mp (Nat.le_antisymm (List.length_filter_le ..) (Nat.le_of_not_lt h)))
theorem sweep_stores_ok (n:Nat){H:AHeap} {ly P E ad tk A T}{Q:AV→AHeap→Prop}(hB:BodyAt H ly P E)(hA:DictAt H ad A)(hs:SlotsOk A)(hT:H tk=some (.set T))
  (h:∀ (P':Prg) (c:Bool) (H':AHeap),(∀ i,0≤i→i < 4→P' i=noSto A (takT A P E T) (P i))→BodyAt H' ly P' E→OldBut H H' ly→(c=false→∀ i,0≤i→i < 4→P' i=P i) →
   (c=true→∃ i,0≤i∧i < 4∧(P' i).length < (P i).length)→Q (.bool c) H'):Cn tabP (n+3) 28 [bodyV ly,.ref ad,.ref tk] H Q:=by
 have hA0:=hA
 obtain⟨es,ha,he⟩:=hA
 refine enter rfl rfl ?_
 apply ok_mk (truth_dict ha)
 cases hes:es.isEmpty with
 |true=>
  have hnone:∀ x,A x=none:=λx=>by
   have h1:es=[]:=List.isEmpty_iff.mp hes
   have h2:=he x
   rw[h1] at h2
   cases hx:A x with
   |none=>rfl
   |some s=>rw[hx] at h2;simp at h2
  have hsto:∀ T r,isSto A T r=false:=λT r=>by
   cases r with
   |store a b w f=>
    cases a with
    |r x=>refine (?_:(match A x with|some s=>!(T s)|none=>false)=false);(refine rwI (hnone ..) ?_;rfl)
    |k v=>rfl
   |_=>rfl
  refine h P false H (λi x_ x_=>?_) hB (.refl _ _) (λx_ x_ x_ x_=>rfl) (λe=>by exact (Bool.false_ne_true e).elim)
  unfold noSto;rw[List.filter_eq_self.mpr];intro p _;refine rwI (hsto ..) ?_;rfl
 |false=>
  refine taken_slots_ok n hB hA0 hs hT λf hf=>?_
  have ex1:=Ext.new (o:=.set (takT A P E T)) hf
  have nd:∀ i,0≤i→i < 4→f≠ly.d i∧ad≠ly.d i:=λi a b=>⟨λe=>(by rw[e,(hB i a b).2] at hf;exact nomatch hf),ne_of_objs ha (hB i a b).2 (by simp)⟩
  generalize hTT:takT A P E T=TT
  rw[hTT] at ex1
  refine forL_mapE (l:=[0,1,2,3]) (λi=>AV.ref (ly.b i)) (λl ρ H'=>Ex6 λdn Pc c j4 j5 j6=>And8 (dn++l=[0,1,2,3]) (ρ=[some (bodyV ly),some (.ref ad),some (.ref f),some (.bool c),j4,j5,j6]) (OldBut (upd H f (.set TT)) H' ly) (BodyAt H' ly Pc E) ((∀ i∈dn,Pc i=noSto A TT (P i))) ((∀ i∈l,Pc i=P i)) ((c=false→∀ i,0≤i→i < 4→Pc i=P i)) ((c=true→∃ i∈dn,(Pc i).length < (P i).length))) rfl
    ⟨[],P,false,_,_,_,rfl,rfl,.refl _ _,hB.ext ex1,λi hi=>(by exact nomatch hi),λx_ x_=>rfl,λx_ x_ x_ x_=>rfl,λe=>(by exact (Bool.false_ne_true e).elim)⟩ ?_ ?_
  ·rintro x l ρ H' K K1 K2 K3 ⟨dn,Pc,c,j4,j5,j6,hdn,rfl,old,hBc,hdone,hrest,hc0,hc1⟩
   have hxm:x∈([0,1,2,3]:List Int):=by refine rwS hdn ?_;simp
   have hx4:0≤x∧x < 4:=by simp at hxm;lia
   have hnd:([0,1,2,3]:List Int).Nodup:=by decide
   have hxd:x ∉ dn:=λhm=>by
    rw[← hdn] at hnd
    exact (List.nodup_append.mp hnd).2.2 x hm x (.head _) rfl
   have hxl:x ∉ l:=λhm=>by
    rw[← hdn] at hnd
    exact (List.nodup_cons.mp (List.nodup_append.mp hnd).2.1).1 hm
   have hPx:Pc x=P x:=hrest x (.head _)
   have est:attrOf H' 1 1 (.ref (ly.b x))=some (.lst (stepsV (P x))):=by
    have:=blk_attr 1 (hBc x hx4.1 hx4.2).1 (hBc x hx4.1 hx4.2).2
    rw[hPx] at this;exact this
   have gf:H' f=some (.set TT):=old _ _ (upd_self ..) λi a b=>(nd i a b).1
   have gA:DictAt H' ad A:=⟨es,old _ _ (keepN hf ha) λi a b=>(nd i a b).2,he⟩
   apply ok_mk est
   refine compL_map (λp:Nat×Row=>stepV p.1 p.2) (λl G Q'=>G=H'∧Q' (stepsV (noSto A TT l)) H') ?_ ?_ _ _ _ ⟨rfl,?_⟩
   ·rintro x0 l2 G Q' K' hk ⟨rfl,hq⟩
    obtain⟨a,r⟩:=x0
    refine is_store_to_ok (n+1) gA gf ?_
    cases hst:isSto A TT r with
    |true=>
     refine hk _ _ trivial ⟨rfl,?_⟩
     have:noSto A TT ((a,r)::l2)=noSto A TT l2:=by unfold noSto;refine rwI List.filter_cons ?_;simp[hst]
     rw[this] at hq;exact hq
    |false=>
     refine hk _ _ trivial ⟨rfl,?_⟩
     have:noSto A TT ((a,r)::l2)=(a,r)::noSto A TT l2:=by unfold noSto;refine rwI List.filter_cons ?_;simp[hst]
     rw[this] at hq;exact hq
   ·rintro G Q' ⟨rfl,hq⟩;exact hq
   ·apply ok_mk est
    have hdec:decide (((stepsV (noSto A TT (P x))).length:Int) < ((stepsV (P x)).length:Int))=decide ((noSto A TT (P x)).length < (P x).length):=by (refine rwI (stepsV_len ..) ?_;refine rwI (stepsV_len ..) ?_;refine rwI (propext Bool.eq_iff_iff) ?_;refine rwI (propext decide_eq_true_iff) ?_;refine rwI (propext decide_eq_true_iff) ?_);exact Int.ofNat_lt
    cases hlt:decide ((noSto A TT (P x)).length < (P x).length) with
    |true=>
     apply yes (hdec.trans hlt)
     have hlt:=of_decide_eq_true hlt
     refine opSetA_ok (hBc x hx4.1 hx4.2).1 (hBc x hx4.1 hx4.2).2 (Nat.le_of_ble_eq_true rfl) ?_
     have hB3:=hBc.setSteps hx4.1 hx4.2 (noSto A TT (P x))
     refine K1 _ _ trivial ⟨dn++[x],_,true,_,_,_,by refine rwS hdn ?_;simp,rfl,λy o hy hny=>?_,hB3,λi hi=>?_,λi hi=>?_,λe=>(by exact absurd e (by decide)),λx_=>⟨x,by simp,by simp only[if_true];exact hlt⟩⟩
     ·refine rwI (upd_ne _ (hny x hx4.1 hx4.2)) ?_;exact old y o hy hny
     ·rcases List.mem_append.mp hi with hi'|hi'
      ·have:i≠x:=by rintro rfl;exact hxd hi'
       simp only[if_neg this];exact hdone i hi'
      ·simp at hi';subst hi';simp only[if_true]
     ·have:i≠x:=by rintro rfl;exact hxl hi
      simp only[if_neg this];exact hrest i (.tail _ hi)
    |false=>
     apply no (hdec.trans hlt)
     have hsame:=noSto_same (of_decide_eq_false hlt)
     refine K1 _ _ trivial ⟨dn++[x],Pc,c,_,_,_,by refine rwS hdn ?_;simp,rfl,old,hBc,λi hi=>?_,λi hi=>hrest i (.tail _ hi),hc0,λe=>?_⟩
     ·rcases List.mem_append.mp hi with hi|hi
      ·exact hdone i hi
      ·simp at hi;subst hi;(refine rwI hPx ?_;refine rwI hsame ?_;rfl)
     ·obtain⟨i,hi,hne⟩:=hc1 e
      exact⟨i,by simp[hi],hne⟩
  ·rintro ρ H' ⟨dn,Pc,c,j4,j5,j6,hdn,rfl,old,hBc,hdone,hrest,hc0,hc1⟩
   have hdn:dn=[0,1,2,3]:=by simpa using hdn
   subst hdn
   refine h Pc c H' (λi a b=>?_) hBc (ex1.old.trans old) hc0 λe=>?_
   ·refine rwI hTT ?_;exact hdone i (by rcases i4 a b with rfl|rfl|rfl|rfl<;>simp)
   ·obtain⟨i,hi,hne⟩:=hc1 e
    exact⟨i,by simp at hi;lia,by simp at hi;lia,hne⟩
structure Round (P:Prg)(E:Ens)(P2:Prg)(c:Bool):Prop where
 ex:∃ (P1:Prg) (L:Int→ISet),(∀ i,0≤i→i < 4→L i=liveF (adrOf P) P E L i)∧(∀ i r,L i r=true→Used P E r) ∧
  (∀ i,0≤i→i < 4→Kept (P i) (P1 i)∧(P1 i).map (·.2)=sweptP (adrOf P) P E L i)∧(∀ i,0≤i→i < 4→P2 i=noSto (adrOf P) (takT (adrOf P) P1 E (tak0 P)) (P1 i))∧(c=false→∀ i,0≤i→i < 4→P1 i=P i)
 same:c=false→∀ i,0≤i→i < 4→P2 i=P i
 diff:c=true→∃ i,0≤i∧i < 4∧(P2 i).map (·.2)≠(P i).map (·.2)
set_option tactic.hygienic true in
theorem adrOf_ok (P:Prg)(h:SlotRows P):SlotsOk (adrOf P):=λx s e=>by
 unfold adrOf at e
 split at e
 ·rename_i hc
  obtain⟨h1,h2⟩:=hc
  obtain⟨p,hp,hd⟩:=List.any_eq_true.mp h2
  obtain⟨y,t,hr,ht⟩:=h.1 p hp
  rw[hr] at hd
  have hd:y=x:=by simpa[Row.dst] using hd
  subst hd
  (replace e:=Option.some.inj e;subst e)
  rcases ht with⟨q1,q2,q3⟩|⟨q1,q2⟩
  ·(refine rwI q1 ?_;refine rwI (Int.add_sub_cancel ..) ?_);exact⟨q2,q3⟩
  ·exact absurd q1 h1
 ·exact nomatch e
theorem sweep_func_ok (n:Nat){H:AHeap} {ly P E br}{Q:AV→AHeap→Prop}(hB:BodyAt H ly P E)(hS:Shape br E)(hr:SlotRows P)(hp:∀ i,RowsRegs (P i))(hx:∀ i,RegsOk (E i).args)
  (hn:∀ i,NoSelf (P i)) (hdst:∀ i,∀ p∈P i,-1≤p.2.dst) (hl:∀ i,(P i).length≤1000)
  (h:∀ (P2:Prg) (c:Bool) (H':AHeap),Round P E P2 c→BodyAt H' ly P2 E→OldBut H H' ly→Q (.bool c) H'):Cn tabP (n+7) 29 [bodyV ly] H Q:=by
 refine enter rfl rfl ?_
 have hlA:(allP P).length≤4000:=by
  have h0:=hl 0;have h1:=hl 1;have h2:=hl 2;have h3:=hl 3
  simp[allP];lia
 refine slot_registers_ok (n+4) hB hlA hr λsl tk H1 ex1 hsl htk hA hT=>?_
 have hsl0:=hA
 obtain⟨es,ha,he⟩:=hA
 have hB1:=hB.ext ex1
 have hso:=adrOf_ok P hr
 refine sweep_steps_ok n hB1 hS hsl0 hso hp hx hn hdst hl λP1 L c H2 hfix hus hk hB2 old2 hc0 hc1=>?_
 have nds:∀ i,0≤i→i < 4→sl≠ly.d i:=λi a b=>ne_of_objs ha (hB1 i a b).2 (by simp)
 have ndt:∀ i,0≤i→i < 4→tk≠ly.d i:=λi a b=>ne_of_objs hT (hB1 i a b).2 (by simp)
 refine sweep_stores_ok (n+3) hB2 ⟨es,old2 _ _ ha nds,he⟩ hso (old2 _ _ hT ndt) λP2 c2 H3 hP2 hB3 old3 hd0 hd1=>?_
 have oldF:=(ex1.old (ly:=ly)).trans (old2.trans old3)
 have len21:∀ i,0≤i→i < 4→(P2 i).length≤(P1 i).length:=λi a b=>by refine rwI (hP2 i a b) ?_;exact List.length_filter_le ..
 have dif:(c=true∨c2=true)→∃ i,0≤i∧i < 4∧(P2 i).map (·.2)≠(P i).map (·.2):=λhc=>by
  by_cases h2:c2=true
  ·obtain⟨i,a,b,hlt⟩:=hd1 h2
   refine⟨i,a,b,λe=>?_⟩
   have:=congrArg List.length e
   have:=(hk i a b).1.len
   simp at *;lia
  ·have h2:c2=false:=by simpa using h2
   obtain⟨i,a,b,hne⟩:=hc1 (hc.resolve_right (by refine rwI h2 ?_;decide))
   exact⟨i,a,b,by refine rwI (hd0 h2 i a b) ?_;exact hne⟩
 cases c2 with
 |true=>
  exact h P2 true H3 ⟨⟨P1,L,hfix,hus,hk,hP2,λe=>(by exact absurd e (by decide))⟩,λe=>(by exact absurd e (by decide)),λx_=>dif (.inr rfl)⟩ hB3 oldF
 |false=>
  exact h P2 c H3 ⟨⟨P1,L,hfix,hus,hk,hP2,hc0⟩,λe i a b=>by refine rwI (hd0 rfl i a b) ?_;exact hc0 e i a b,λe=>dif (.inl e)⟩ hB3 oldF
noncomputable def OpdOk:Opd→Prop:=@λy_1=>match @y_1 with
 |.r n=>0≤n∧n < 21
 |.k v=>0≤v∧v≤4294967295
noncomputable def WOk (w:Int):Prop:=w=1∨w=2∨w=4
noncomputable def CkRow (r:Row):Prop:=(∀ o∈r.args,OpdOk o)∧match r with
 |.store _ _ w _=>WOk w
 |.load d _ w _ _=>WOk w∧0≤d∧d < 21
 |.slot d s=>0≤s∧s < 4∧0≤d∧d < 21
 |.move ..=>True
 |.call d _ _=>-1≤d∧d < 21
 |r=>0≤r.dst∧r.dst < 21
section
variable {H:AHeap}{ly:Lay}{w:AV}
noncomputable def wantedN:Row→Int:=@λy_1=>match @y_1 with
 |.call ..=>-1
 |r=>r.args.length
theorem check_operand_ok (n:Nat){o:Opd}{Q:AV→AHeap→Prop}(ho:OpdOk o)(h:Q .none H):Cn tabP (n+1) 1 [bodyV ly,opdV o,w] H Q:=by
 refine enter rfl rfl ?_
 cases o with
 |r x=>
  apply yes (decide_eq_true ho.1)
  apply no (nott (decide_eq_true ho.2))
  exact h
 |k v=>
  apply yes (decide_eq_true ho.1)
  apply no (nott (decide_eq_true ho.2))
  exact h
set_option tactic.hygienic true in
theorem wanted_args_ok (n:Nat) {a r}{Q:AV→AHeap→Prop}(h:Q (.int (wantedN r)) H):Cn tabP (n+1) 2 [stepV a r] H Q:=by
 refine enter rfl rfl ?_
 cases r<;>(try (rename_i o _ _ _;cases o))<;>exact h
theorem notin3 (w:Int)(h:WOk w):opCm H .notin (.int w) (.tup [.int 1,.int 2,.int 4])=some false:=by
 rcases h with rfl|rfl|rfl<;>rfl
theorem check_more_ok (n:Nat) {a r}{Q:AV→AHeap→Prop}(hr:CkRow r)(h:Q .none H):Cn tabP (n+1) 3 [bodyV ly,stepV a r,w] H Q:=by
 refine enter rfl rfl ?_
 cases r with
 |load d x wd s f=>rcases hr.2.1 with rfl|rfl|rfl<;>cases f<;>exact h
 |store x y wd f=>rcases hr.2 with rfl|rfl|rfl<;>cases f<;>exact h
 |slot d s=>
  apply yes (decide_eq_true hr.2.1)
  apply no (nott (decide_eq_true hr.2.2.1))
  exact h
 |move x y f=>cases f<;>exact h
 |bin o d x y=>cases o<;>exact h
 |_=>exact h
theorem check_step_ok (n:Nat) {a r}{Q:AV→AHeap→Prop}(hr:CkRow r)(h:Q .none H):Cn tabP (n+2) 4 [bodyV ly,stepV a r,w] H Q:=by
 refine enter rfl rfl ?_
 refine wanted_args_ok n ?_
 refine w_skip (λK k=>?_) ?_
 ·cases r<;>exact k
 refine forL_map opdV (λl ρ H'=>And3 ((∀ o∈l,OpdOk o)) (H'=H) (∃ j4,ρ=[some (bodyV ly),some (stepV a r),some w,some (.int (wantedN r)),j4])) ?_ ?_ r.args _ _ ⟨hr.1,rfl,_,rfl⟩
 ·rintro o l ρ H' K K1 K2 K3 ⟨ho,rfl,j4,rfl⟩
  refine check_operand_ok n (ho o (.head _)) ?_
  exact K1 _ _ trivial ⟨λo' h'=>ho o' (.tail _ h'),rfl,_,rfl⟩
 ·rintro ρ H' ⟨_,rfl,j4,rfl⟩
  refine check_more_ok n hr ?_
  cases r with
  |store x y wd f=>exact h
  |move x y f=>exact h
  |call d x p=>
   apply yes (decide_eq_true hr.2.1)
   apply no (nott (decide_eq_true hr.2.2));exact h
  |load d x wd s f=>
   apply yes (decide_eq_true hr.2.2.1)
   apply no (nott (decide_eq_true hr.2.2.2));exact h
  |slot d s=>
   apply yes (decide_eq_true hr.2.2.2.1)
   apply no (nott (decide_eq_true hr.2.2.2.2));exact h
  |bin o d x y=>cases o<;>(apply yes (decide_eq_true hr.2.1);apply no (nott (decide_eq_true hr.2.2));exact h)
  |copy d x=>apply yes (decide_eq_true hr.2.1);apply no (nott (decide_eq_true hr.2.2));exact h
  |name d=>apply yes (decide_eq_true hr.2.1);apply no (nott (decide_eq_true hr.2.2));exact h
end
theorem check_end_ok (n:Nat){H:AHeap} {ly P E br i}{w:AV}{Q:AV→AHeap→Prop}(hB:BodyAt H ly P E)(hS:Shape br E)(i0:0≤i)(i1:i < 4)(hx:RegsOk (E i).args)(h:Q .none H):Cn tabP (n+2) 5 [bodyV ly,.ref (ly.b i),w] H Q:=by
 refine enter rfl rfl ?_
 have een:attrOf H 1 2 (.ref (ly.b i))=some (endV (ly.e i) (E i)):=blk_attr 2 (hB i i0 i1).1 (hB i i0 i1).2
 apply ok_mk een
 have rest:∀ wn,wn=((E i).args.length:Int)→wB (Cn tabP (n+1)) [.iff (.cmp .ne (.len (.attr (.v 3) 0 2)) (.v 6)) [.dead] [],.forr (.one 4) .plain [.attr (.v 3) 0 2] [.ex (.call 1 [.v 0,.v 4,.v 2])],.forr (.one 5) .plain [.call 0 [.v 1]] [.iff (.not (.cmp2 .le .lt (.int 0) (.v 5) (.len (.attr (.v 0) 2 4)))) [.dead] []]]
   [some (bodyV ly),some (.ref (ly.b i)),some w,some (endV (ly.e i) (E i)),none,none,some (.int wn)] H (λf x_ H'=>Q (retOf f) H'):=by
  intro wn hwn
  have e0:((((E i).args.map opdV).length:Int)==wn)=true:=by (refine rwI (List.length_map ..) ?_;refine rwI hwn ?_);exact beq_self_eq_true _
  apply no (nott e0)
  refine forL_map opdV (λl ρ H'=>And3 (∀ o∈l,OpdOk o) (H'=H) (∃ j4,ρ=[some (bodyV ly),some (.ref (ly.b i)),some w,some (endV (ly.e i) (E i)),j4,none,some (.int wn)])) ?_ ?_ (E i).args _ _ ⟨?_,rfl,_,rfl⟩
  ·rintro o l ρ H' K K1 K2 K3 ⟨ho,rfl,j4,rfl⟩
   refine check_operand_ok n (ho o (.head _)) ?_
   exact K1 _ _ trivial ⟨λo' h'=>ho o' (.tail _ h'),rfl,_,rfl⟩
  ·rintro ρ H' ⟨_,rfl,j4,rfl⟩
   refine followers_at n hB hS i0 i1 ?_
   refine forL_map AV.int (λl ρ H2=>And3 (∀ x∈l,0≤x∧x < 4) (H2=H') (∃ j5,ρ=[some (bodyV ly),some (.ref (ly.b i)),some w,some (endV (ly.e i) (E i)),j4,j5,some (.int wn)])) ?_ ?_ _ _ _ ⟨λx hx=>succS_in hx,rfl,_,rfl⟩
   ·rintro x l ρ H2 K K1 K2 K3 ⟨hx4,rfl,j5,rfl⟩
    obtain⟨x0,x1⟩:=hx4 x (.head _)
    apply yes (decide_eq_true x0)
    apply no (nott (decide_eq_true x1))
    exact K1 _ _ trivial ⟨λy hy=>hx4 y (.tail _ hy),rfl,_,rfl⟩
   ·rintro ρ H2 ⟨_,rfl,j5,rfl⟩
    exact h
  ·intro o ho
   cases he:E i with
   |jump t=>rw[he] at ho;exact nomatch ho
   |branch r a b=>rw[he] at ho hx;cases List.mem_singleton.mp ho;exact hx r (.head _)
   |give r=>rw[he] at ho hx;cases List.mem_singleton.mp ho;exact hx r (.head _)
 cases he:E i with
 |jump t=>rw[he] at rest;exact rest 0 rfl
 |branch r a b=>rw[he] at rest;exact rest 1 rfl
 |give r=>rw[he] at rest;exact rest 1 rfl
theorem check_set_ok (n:Nat){H:AHeap}{l:List Opd}{nw:Nat}{m:ISet}{w:AV}{Q:AV→AHeap→Prop}(hm:H nw=some (.set m))(hl:∀ x,.r x∈l→m x=true)(h:Q .none H):Cn tabP (n+1) 7 [argsV l,.ref nw,w] H Q:=by
 refine enter rfl rfl ?_
 refine forL_map opdV (λl ρ H'=>And3 (∀ x,.r x∈l→m x=true) (H'=H) (Ex3 λv0 j3 j4=>ρ=[v0,some (.ref nw),some w,j3,j4])) ?_ ?_ l _ _ ⟨hl,rfl,_,_,_,rfl⟩
 ·rintro o l ρ H' K K1 K2 K3 ⟨ho,rfl,v0,j3,j4,rfl⟩
  cases o with
  |r x=>
   apply ok_mk (opNotin_set hm)
   apply no (nott (ho x (.head _)))
   exact K1 _ _ trivial ⟨λy hy=>ho y (.tail _ hy),rfl,_,_,_,rfl⟩
  |k v=>exact K1 _ _ trivial ⟨λy hy=>ho y (.tail _ hy),rfl,_,_,_,rfl⟩
 ·rintro ρ H' ⟨_,rfl,v0,j3,j4,rfl⟩
  exact h
noncomputable def addD (m:ISet) (r:Row):ISet:=match decide (r.dst ≥ 0) with
 |true=>addS m r.dst
 |false=>m
noncomputable def afterD (l:List Row) (m:ISet):ISet:=l.foldl addD m
noncomputable def prmM:ISet:=setM [0,1,7,8,9,10]
noncomputable def rowsOf (P:Prg) (i:Int):List Row:=(P i).map (·.2)
noncomputable def kkF (P:Prg) (br:Bool) (i:Int):ISet:=
 if i=0 then prmM else if i=1 then afterD (rowsOf P 0) prmM else if i=2 then afterD (rowsOf P 1) (afterD (rowsOf P 0) prmM)
 else match br with
  |true=>afterD (rowsOf P 1) (afterD (rowsOf P 0) prmM)
  |false=>afterD (rowsOf P 2) (afterD (rowsOf P 1) (afterD (rowsOf P 0) prmM))
noncomputable def okPair (br:Bool) (x j:Int):Bool:=(x==0&&j==1)||(x==1&&j==2)||(br&&x==1&&j==3)||(!br&&x==2&&j==3)
theorem okPair_kk {P br x j}(h:okPair br x j=true):kkF P br j=afterD (rowsOf P x) (kkF P br x):=by
 simp only[okPair,Bool.or_eq_true,Bool.and_eq_true,beq_iff_eq,Bool.not_eq_true'] at h
 rcases h with ((⟨rfl,rfl⟩|⟨rfl,rfl⟩)|⟨⟨rfl,rfl⟩,rfl⟩)|⟨⟨rfl,rfl⟩,rfl⟩<;>rfl
theorem le_addD (m:ISet)(r:Row):Le m (addD m r):=λx hx=>by
 unfold addD;cases decide (r.dst ≥ 0)
 ·exact hx
 ·simp[addS,hx]
theorem le_afterD:∀ (l:List Row)(m:ISet),Le m (afterD l m):=@λy_1=>@λy_2=>match @y_1,@y_2 with
 |[],m=>Le.refl m
 |r::l,m=>(le_addD m r).trans (le_afterD l (addD m r))
theorem kk_le {P br x j}(x0:0≤x)(x1:x < 4)(h:j∈succS br x):Le (kkF P br j) (afterD (rowsOf P x) (kkF P br x)):=by
 revert j
 refine all4 (P:=λx=>∀ {j},j∈succS br x→Le (kkF P br j) (afterD (rowsOf P x) (kkF P br x))) ?_ ?_ ?_ ?_ x x0 x1
 ·intro j h;refine rwI (mem1 (h:j∈[1])) ?_;exact Le.refl _
 ·intro j h
  cases br with
  |true=>exact all2 (P:=λj=>Le (kkF P true j) _) (h:j∈[2,3]) (Le.refl _) (Le.refl _)
  |false=>refine rwI (mem1 (h:j∈[2])) ?_;exact Le.refl _
 ·intro j h
  refine all2 (P:=λj=>Le (kkF P br j) _) (h:j∈[1,3]) ((le_afterD (rowsOf P 1) _).trans (le_afterD (rowsOf P 2) _)) ?_
  cases br with
  |true=>exact le_afterD (rowsOf P 2) _
  |false=>exact Le.refl _
 ·intro j h;exact nomatch h
noncomputable def kfold (br:Bool) (x:Int):List Int→(Int→Bool)→List Int→Option ((Int→Bool)×List Int):=@λy_1=>@λy_2=>@λy_3=>match @y_1,@y_2,@y_3 with
 |[],kf,W=>some (kf,W)
 |j::l,kf,W=>match kf j with
  |true=>kfold br x l kf W
  |false=>match okPair br x j with
   |true=>kfold br x l (at1 j true kf) (j::W)
   |false=>none
noncomputable def krun (br:Bool):Nat→(Int→Bool)→List Int→Bool:=@λy_1=>@λy_2=>@λy_3=>match @y_1,@y_2,@y_3 with
 |0,kf,W=>W.isEmpty&&(kf 0&&kf 1&&kf 2&&kf 3)
 |n+1,kf,[]=>kf 0&&kf 1&&kf 2&&kf 3
 |n+1,kf,x::r=>match kfold br x (succS br x) kf r with
  |none=>false
  |some (kf',W')=>krun br n kf' W'
theorem krun_eq (br:Bool):krun br 8 (λj=>j==0) [0]=true:=by cases br<;>decide
noncomputable def kvV (sK:Int→Nat) (kf:Int→Bool) (i:Int):AV:=match kf i with
 |true=>.ref (sK i)
 |false=>.none
structure KS (H G:AHeap)(P:Prg)(br:Bool)(kn w:Nat)(sK:Int→Nat)(kf:Int→Bool)(W:List Int):Prop where
 ex:Ext H G
 hk:H kn=none
 hw:H w=none
 gk:G kn=some (.list [kvV sK kf 0,kvV sK kf 1,kvV sK kf 2,kvV sK kf 3])
 gw:G w=some (.list (W.reverse.map .int))
 gs:∀ i,0≤i→i < 4→kf i=true→G (sK i)=some (.set (kkF P br i))
 nkw:kn≠w
 wr:∀ x∈W,0≤x∧x < 4∧kf x=true
theorem opNe_nil {H:AHeap}{w:Nat}{l:List Int}(h:H w=some (.list (l.map .int))):opCm H .ne (.ref w) (.lst [])=some (!l.isEmpty):=by
 have hd:derefL H (.ref w)=.lst (l.map .int):=congrArg (derefO w) h
 have hp:plainD 20 (.lst (l.map AV.int))=true:=by
  refine (?_:(l.map AV.int).all (plainD 19)=true)
  (refine rwI List.all_map ?_;refine rwI (propext List.all_eq_true) ?_);intro x _;rfl
 have he:opEq H (.ref w) (.lst [])=some (veq (.lst (l.map .int)) (.lst [])):=by
  unfold opEq;(refine rwI hd ?_;refine rwI hp ?_);rfl
 refine (?_:(opEq H (.ref w) (.lst [])).map _=_)
 refine rwI he ?_
 cases l<;>rfl
theorem opSetI_list {H:AHeap}{a:Nat}{xs:List AV}{i:Int}{v:AV}{Q:AHeap→Prop}(h:H a=some (.list xs))(h0:0≤i)(h1:i < (xs.length:Int))(hl:xs.length≤100000)(q:Q (upd H a (.list (xs.set i.toNat v)))):opSetI H (.ref a) (.int i) v Q:=
 ⟨a,i,rfl,rfl,.inl ⟨xs,h,h0,h1,hl,q⟩⟩
theorem kv_ix {H:AHeap}{kn:Nat}{g:Int→AV}(h:H kn=some (.list [g 0,g 1,g 2,g 3])){i:Int}(i0:0≤i)(i1:i < 4):getIx H (.ref kn) (.int i)=some (g i):=by
 refine rwI (getIx_list i h) ?_
 rcases i4 i0 i1 with rfl|rfl|rfl|rfl<;>rfl
theorem kv_set (sK:Int→Nat)(kf:Int→Bool)(a:Nat){i:Int}(i0:0≤i)(i1:i < 4):[kvV sK kf 0,kvV sK kf 1,kvV sK kf 2,kvV sK kf 3].set i.toNat (.ref a)=[kvV (at1 i a sK) (at1 i true kf) 0,kvV (at1 i a sK) (at1 i true kf) 1,kvV (at1 i a sK) (at1 i true kf) 2,kvV (at1 i a sK) (at1 i true kf) 3]:=by
 rcases i4 i0 i1 with rfl|rfl|rfl|rfl<;>rfl
section
variable {H G:AHeap}{P:Prg}{br:Bool}{kn w:Nat}{sK:Int→Nat}{kf:Int→Bool}{W r:List Int}{x j:Int}
theorem kv_t (h:kf x=true):kvV sK kf x=.ref (sK x):=by unfold kvV;(refine rwI h ?_;rfl)
theorem kv_f (h:kf x=false):kvV sK kf x=.none:=by unfold kvV;(refine rwI h ?_;rfl)
theorem KS.fresh (S:KS H G P br kn w sK kf W){a:Nat}{o:AObj}(h:G a=none):KS H (upd G a o) P br kn w sK kf W:=
 ⟨S.ex.trans (Ext.new h),S.hk,S.hw,keepN h S.gk,keepN h S.gw,λi a b c=>keepN h (S.gs i a b c),S.nkw,S.wr⟩
theorem KS.pop (S:KS H G P br kn w sK kf (x::r))(hl:r.length≤1000){Q:AV→AHeap→Prop}(q:∀ G,KS H G P br kn w sK kf r→Q (.int x) G):isLi G (.ref w)∧opPop G (.ref w) Q:=
 pop_i (xs:=r.reverse.map .int) (by (refine rwI S.gw ?_;refine rwI List.reverse_cons ?_;refine rwI List.map_append ?_);rfl) (by (refine rwI (List.length_map ..) ?_;refine rwI List.length_reverse ?_);lia)
  (q _ ⟨S.ex.set S.hw,S.hk,S.hw,(upd_ne _ S.nkw).trans S.gk,upd_self ..,λi a b c=>(upd_ne _ (ne_of_objs (S.gs i a b c) S.gw nl_set)).trans (S.gs i a b c),S.nkw,λy hy=>S.wr y (.tail _ hy)⟩)
theorem KS.add (S:KS H G P br kn w sK kf W)(j0:0≤j)(j1:j < 4){sj:Nat}(hs:G sj=none){N:ISet}(hN:kkF P br j=N)(hl:W.length≤1000){nw:Nat}{m:ISet}(gn:G nw=some (.set m)){Q:AV→AHeap→Prop}
  (q:∀ G,KS H G P br kn w (at1 j sj sK) (at1 j true kf) (j::W)→G nw=some (.set m)→Q .none G):opSetI (upd G sj (.set N)) (.ref kn) (.int j) (.ref sj) λG=>isLi G (.ref w)∧opAppend G (.ref w) (.int j) Q:=by
 have S1:=S.fresh (o:=.set N) hs
 have st:∀ {y m},upd G sj (.set N) y=some (.set m)→∀ l l',upd (upd (upd G sj (.set N)) kn (.list l)) w (.list l') y=some (.set m):=λh l l'=>(upd_ne _ (ne_of_objs h S1.gw nl_set)).trans ((upd_ne _ (ne_of_objs h S1.gk nl_set)).trans h)
 refine opSetI_list S1.gk j0 (by dsimp;lia) (Nat.le_of_ble_eq_true rfl) ?_
 refine rwI (kv_set _ _ _ j0 j1) ?_
 refine app_i ((upd_ne _ S.nkw.symm).trans S1.gw) (by (refine rwI (List.length_map ..) ?_;refine rwI List.length_reverse ?_);lia) (q _ ⟨(S1.ex.set S.hk).set S.hw,S.hk,S.hw,(upd_ne _ S.nkw).trans (upd_self ..),by (refine rwI (upd_self ..) ?_;refine rwI List.reverse_cons ?_;refine rwI List.map_append ?_);rfl,λi a b c=>?_,S.nkw,λy hy=>?_⟩ (st (keepN hs gn) _ _))
 ·by_cases e:i=j
  ·(refine rwI e ?_;refine rwI at1_self ?_;refine rwI hN ?_);exact st (upd_self ..) _ _
  ·rw[at1_ne e] at c ⊢;exact st (S1.gs i a b c) _ _
 ·by_cases e:y=j
  ·(refine rwI e ?_;refine rwI at1_self ?_);exact⟨j0,j1,rfl⟩
  ·refine rwI (at1_ne e) ?_;exact S.wr y ((List.mem_cons.mp hy).resolve_left e)
theorem KS.new (h0:H kn=none){s:Nat}{m:ISet}(hs:upd H kn (.list [.none,.none,.none,.none]) s=none)(hw:upd (upd (upd H kn (.list [.none,.none,.none,.none])) s (.set m)) kn (.list ([AV.none,.none,.none,.none].set (0:Int).toNat (.ref s))) w=none)(hm:kkF P br 0=m) :
  KS H (upd (upd (upd (upd H kn (.list [.none,.none,.none,.none])) s (.set m)) kn (.list ([AV.none,.none,.none,.none].set (0:Int).toNat (.ref s)))) w (.list [.int 0])) P br kn w (λx_=>s) (λj=>j==0) [0]:=by
 have a:=new_ne hs
 have b:=new_ne hw
 have e3:=((Ext.new h0).trans (Ext.new (o:=.set m) hs)).set (o:=.list ([AV.none,.none,.none,.none].set (0:Int).toNat (.ref s))) h0
 refine⟨e3.trans (Ext.new hw),h0,e3.none hw,(upd_ne _ b.1.symm).trans (upd_self ..),upd_self ..,λi x_ x_ hi=>?_,b.1.symm,λx hx=>?_⟩
 ·(refine rwI (eq_of_beq hi) ?_;refine rwI hm ?_)
  exact (upd_ne _ (new_ne b.2).1.symm).trans ((upd_ne _ a.1).trans (upd_self ..))
 ·refine rwI (mem1 hx) ?_;decide
theorem krun_nil {k:Nat}(h:krun br k kf []=true):∀ i,0≤i→i < 4→kf i=true:=by
 have h:((kf 0&&kf 1)&&kf 2&&kf 3)=true:=by cases k<;>exact h
 have h1:=band2 h
 have h2:=band2 h1.1
 have h3:=band2 h2.1
 exact all4 (P:=λi=>kf i=true) h3.1 h3.2 h2.2 h1.2
theorem krun_c {k:Nat}(h:krun br k kf (x::r)=true):∃ j kf' W',k=j+1∧kfold br x (succS br x) kf r=some (kf',W')∧krun br j kf' W'=true:=by
 cases k with
 |zero=>exact (Bool.false_ne_true h).elim
 |succ k=>
  replace h:(match kfold br x (succS br x) kf r with|none=>false|some (kf',W')=>krun br k kf' W')=true:=h
  refine ocase (o:=kfold br x (succS br x) kf r) (λe=>?_) λp e=>⟨k,p.1,p.2,rfl,e,?_⟩
  ·rw[e] at h;exact (Bool.false_ne_true h).elim
  ·rw[e] at h;exact h
theorem kfold_t {l:List Int}(h:kf j=true):kfold br x (j::l) kf W=kfold br x l kf W:=by
 refine (?_:(match kf j with|true=>kfold br x l kf W|false=>match okPair br x j with|true=>kfold br x l (at1 j true kf) (j::W)|false=>none)=_)
 (refine rwI h ?_;rfl)
theorem kfold_f {l:List Int}{q:(Int→Bool)×List Int}(h:kf j=false)(e:kfold br x (j::l) kf W=some q):okPair br x j=true∧kfold br x l (at1 j true kf) (j::W)=some q:=by
 replace e:(match kf j with|true=>kfold br x l kf W|false=>match okPair br x j with|true=>kfold br x l (at1 j true kf) (j::W)|false=>none)=some q:=e
 rw[h] at e
 refine bcase (b:=okPair br x j) (λo=>?_) λo=>⟨o,?_⟩
 ·rw[o] at e;exact none_some e
 ·rw[o] at e;exact e
end
theorem add_dsts {C:Oracle}{H:AHeap}{nw:Nat}{Q:Fl→AEnv→AHeap→Prop}{v0 v1 v2 v3 v6 v7:Option AV}(l:List (Nat×Row))(hl:∀ p∈l,p.2.dst < 21):∀ (m:ISet)(v5:Option AV),H nw=some (.set m) →
  (∀ v5,Q .nx [v0,v1,v2,v3,some (.ref nw),v5,v6,v7] (upd H nw (.set (afterD (l.map (·.2)) m)))) →
  forL (guardOf (stepsV l) none) (stepF C (.one 5) [.iff (.cmp .ge (.attr (.v 5) 0 1) (.int 0)) [.ex (.add (.v 4) (.attr (.v 5) 0 1))] []]) (stepsV l) [v0,v1,v2,v3,some (.ref nw),v5,v6,v7] H Q:=by
 intro m v5 hm hQ
 refine forL_map (λp:Nat×Row=>stepV p.1 p.2) (λl' ρ H'=>(∀ p∈l',p.2.dst < 21)∧Ex2 λv5 m'=>And3 (ρ=[v0,v1,v2,v3,some (.ref nw),v5,v6,v7]) (H'=upd H nw (.set m')) (afterD (l'.map (·.2)) m'=afterD (l.map (·.2)) m)) ?_ ?_ l _ H ⟨hl,v5,m,rfl,(upd_same hm).symm,rfl⟩
 ·rintro x0 l' ρ H' K K1 K2 K3 ⟨hl',v5,m',rfl,rfl,e⟩
  obtain⟨a,r⟩:=x0
  have hd:=hl' _ (.head _)
  have hd:r.dst < 21:=hd
  refine bcase (b:=decide (r.dst ≥ 0)) (λhx=>?_) λhx=>?_
  ·
   apply no hx
   refine K1 _ _ trivial ⟨λp hp=>hl' p (.tail _ hp),_,m',rfl,rfl,?_⟩
   refine rwS e ?_;refine (?_:_=afterD _ (addD m' r));simp only[addD,hx]
  ·
   apply yes hx
   have h0:=of_decide_eq_true hx
   refine add_i (upd_self ..) h0 (by lia) ?_
   refine rwI (upd_upd ..) ?_
   refine K1 _ _ trivial ⟨λp hp=>hl' p (.tail _ hp),_,_,rfl,rfl,?_⟩
   refine rwS e ?_;refine (?_:_=afterD _ (addD m' r));simp only[addD,hx];rfl
 ·rintro ρ H' ⟨_,v5,m',rfl,rfl,e⟩
  have e:m'=afterD (l.map (·.2)) m:=e
  refine rwI e ?_;exact hQ _
theorem set_at_ends_ok (n:Nat){H:AHeap} {ly P E br}{Q:AV→AHeap→Prop}(hB:BodyAt H ly P E)(hS:Shape br E)(hd:∀ i,∀ p∈P i,p.2.dst < 21)
  (h:∀ (kn:Nat) (sK:Int→Nat) (H':AHeap),Ext H H'→H' kn=some (.list [.ref (sK 0),.ref (sK 1),.ref (sK 2),.ref (sK 3)])→(∀ i,0≤i→i < 4→H' (sK i)=some (.set (kkF P br i)))→Q (.ref kn) H') :
  Cn tabP (n+2) 6 [bodyV ly] H Q:=by
 refine enter rfl rfl ?_
 refine And.intro trivial (And.intro trivial (And.intro trivial (And.intro trivial ?_)))
 intro kn hkn
 intro s0 hs0
 refine opSetI_list (xs:=[.none,.none,.none,.none]) ((upd_ne _ (new_ne hs0).1.symm).trans (upd_self ..)) (by decide) (by decide) (by decide) ?_
 intro w hw
 have S0:=KS.new (P:=P) (br:=br) hkn hs0 hw rfl
 refine whl_I (λk ρ H'=>Ex8 λsK kf W j3 j4 j5 j6 j7=>And4 (ρ=[some (bodyV ly),some (.ref kn),some (.ref w),j3,j4,j5,j6,j7]) (KS H H' P br kn w sK kf W) (krun br k kf W=true) (W.length+4 * k≤40)) 8
  ⟨_,_,_,_,_,_,_,_,rfl,S0,krun_eq br,by decide⟩ ?_
 clear S0 hkn hs0 hw
 rintro k ρ H' K K1 K2 K3 ⟨sK,kf,W,j3,j4,j5,j6,j7,rfl,S,hrun,hln⟩
 apply ok_mk (opNe_nil S.gw)
 cases W with
 |nil=>
  have hall:=krun_nil hrun
  refine h kn sK H' S.ex ?_ λi a b=>S.gs i a b (hall i a b)
  (refine rwI S.gk ?_;refine rwI (kv_t (hall 0 (by decide) (by decide))) ?_;refine rwI (kv_t (hall 1 (by decide) (by decide))) ?_;refine rwI (kv_t (hall 2 (by decide) (by decide))) ?_;refine rwI (kv_t (hall 3 (by decide) (by decide))) ?_;rfl)
 |cons x r=>
  clear h
  obtain⟨x0,x1,hkx⟩:=S.wr x (.head _)
  obtain⟨k,kf',W',rfl,hfold,hrun⟩:=krun_c hrun
  rw[List.length_cons] at hln
  refine yes (by refine rwI List.reverse_cons ?_;cases r.reverse<;>rfl) ?_
  refine S.pop (by lia) λG1 S1=>?_
  clear S
  apply ok_mk ((kv_ix S1.gk x0 x1).trans (congrArg some (kv_t hkx)))
  apply ok_mk (setOfV_set (S1.gs x x0 x1 hkx))
  intro nw hnw
  have hB2:=hB.ext (S1.ex.trans (Ext.new (o:=.set (kkF P br x)) hnw)) x x0 x1
  apply ok_mk (blks_ix x0 x1)
  apply ok_mk (blk_attr 1 hB2.1 hB2.2:attrOf (upd G1 nw (.set (kkF P br x))) 1 1 (.ref (ly.b x))=some (.lst (stepsV (P x))))
  refine add_dsts (C:=Cn tabP (n+1)) (P x) (hd x) _ _ (upd_self ..) λv5=>?_
  refine rwI (upd_upd ..) ?_
  have S2:=S1.fresh (o:=.set (afterD (rowsOf P x) (kkF P br x))) hnw
  clear hB2
  apply ok_mk (blks_ix x0 x1)
  refine followers_at n (hB.ext S2.ex) hS x0 x1 ?_
  refine forL_map AV.int (λl ρ H2=>Ex4 λsK kf W j6=>And6 (∀ j∈l,j∈succS br x) (ρ=[some (bodyV ly),some (.ref kn),some (.ref w),some (.int x),some (.ref nw),v5,j6,j7]) (KS H H2 P br kn w sK kf W) (H2 nw=some (.set (afterD (rowsOf P x) (kkF P br x)))) (kfold br x l kf W=some (kf',W')) (W.length+l.length≤r.length+2)) ?_ ?_ (succS br x) _ _
   ⟨sK,kf,r,_,λx_ hj=>hj,rfl,S2,upd_self ..,hfold,by have:=succS_len br x;lia⟩
  ·clear K1 K2 K3 S1 S2 hfold hrun hnw hB hd
   rintro j l ρ H2 K' K1' K2' K3' ⟨sK,kf,W,j6,hl,rfl,Sj,gn,hf,hwl⟩
   have hjs:=hl j (.head _)
   have j4:=succS_in hjs
   rw[List.length_cons] at hwl
   have hl':∀ y∈l,y∈succS br x:=λy hy=>hl y (.tail _ hy)
   apply ok_mk (kv_ix Sj.gk j4.1 j4.2)
   cases hkj:kf j with
   |true=>
    have hv:kvV sK kf j=.ref (sK j):=kv_t hkj
    refine rwI hv ?_
    apply ok_mk ((kv_ix Sj.gk j4.1 j4.2).trans (congrArg some hv))
    apply ok_mk (asSet_set (Sj.gs j j4.1 j4.2 hkj))
    apply ok_mk (asSet_set gn)
    intro b hb
    refine rwI (hb.mpr (kk_le x0 x1 hjs)) ?_
    exact K1' _ _ trivial ⟨sK,kf,W,_,hl',rfl,Sj,gn,(kfold_t hkj).symm.trans hf,by lia⟩
   |false=>
    refine rwI (kv_f hkj) ?_
    have hf':=kfold_f hkj hf
    apply ok_mk (setOfV_set gn)
    intro sj hsj
    exact Sj.add j4.1 j4.2 hsj (okPair_kk hf'.1) (by lia) gn λG4 S4 gn4=>K1' _ _ trivial ⟨_,_,j::W,_,hl',rfl,S4,gn4,hf'.2,by refine rwI List.length_cons ?_;lia⟩
  ·clear S1 S2
   rintro ρ H2 ⟨sK,kf,W,j6,_,rfl,Sj,gn,hf,hwl⟩
   cases hf
   exact K1 k _ _ (Nat.lt_succ_self _) ⟨sK,kf',W',_,_,_,_,_,rfl,Sj,hrun,by rw[List.length_nil] at hwl;lia⟩
noncomputable def DaRows:List Row→ISet→Prop:=@λy_1=>@λy_2=>match @y_1,@y_2 with
 |[],x_1=>True
 |r::l,m=>(∀ x,.r x∈r.args→m x=true)∧DaRows l (addD m r)
noncomputable def DaAll (P:Prg) (E:Ens) (br:Bool):Prop:=∀ i,0≤i→i < 4→DaRows (rowsOf P i) (kkF P br i)∧∀ x,.r x∈(E i).args→afterD (rowsOf P i) (kkF P br i) x=true
noncomputable def rowsL (l:List (Nat×Row)):List Row:=l.map (·.2)
noncomputable def whereS (i:Int):String:="drawn" ++ " block " ++ toString i
noncomputable abbrev whereE:E:=.bin .add (.bin .add (.attr (.v 0) 2 0) (.str " block ")) (.strOf (.v 5))
theorem where_ok {C:Oracle}{ρ:AEnv}{H:AHeap}{ly:Lay}{i:Int}{Q:AV→AHeap→Prop}(h0:gv ρ 0=some (bodyV ly))(h5:gv ρ 5=some (.int i))(i0:0≤i)(i1:i < 4)(h:Q (.str (whereS i)) H):wE C whereE ρ H Q:=by
 have e2:opBin .add (.str ("drawn" ++ " block ")) (.str (toString i))=some (.str (whereS i)):=by
  rcases i4 i0 i1 with rfl|rfl|rfl|rfl<;>rfl
 apply ok_mk h0
 apply ok_mk h5
 refine Exists.intro i ⟨rfl,i0,Int.lt_trans i1 (by decide),?_⟩
 exact ok_mk e2 h
theorem check_func_ok (n:Nat){H:AHeap} {ly P E br}{Q:AV→AHeap→Prop}(hB:BodyAt H ly P E)(hS:Shape br E)(hck:∀ i,∀ p∈P i,CkRow p.2)(hx:∀ i,RegsOk (E i).args)(hda:DaAll P E br)
  (hd:∀ i,∀ p∈P i,p.2.dst < 21) (h:∀ H',Ext H H'→Q .none H'):Cn tabP (n+4) 8 [bodyV ly] H Q:=by
 refine enter rfl rfl ?_
 refine forL_mapE (l:=[0,1,7,8,9,10]) AV.int (λl ρ H'=>And3 ((∀ x∈l,x∈([0,1,7,8,9,10]:List Int))) (H'=H) (∃ j1,ρ=[some (bodyV ly),j1,none,none,none,none,none,none,none,none])) rfl
   ⟨λx_ hx=>hx,rfl,_,rfl⟩ ?_ ?_
 ·rintro x l ρ H' K K1 K2 K3 ⟨hl,rfl,j1,rfl⟩
  have hm:=hl x (.head _)
  obtain⟨h1,h2,hcnt⟩:=(by decide:∀ x∈([0,1,7,8,9,10]:List Int),decide (0≤x)=true∧(!decide (x < 21))=false∧decide ((((([0,1,7,8,9,10]:List Int).filter (· == x)).length:Nat):Int) > 1)=false) x hm
  apply yes h1
  apply no h2
  refine Exists.intro _ ⟨rfl,?_⟩
  refine Exists.intro x ⟨rfl,?_⟩
  apply no hcnt
  exact K1 _ _ trivial ⟨λy hy=>hl y (.tail _ hy),rfl,_,rfl⟩
 ·rintro ρ H' ⟨_,rfl,j1,rfl⟩
  refine forL_mapE (l:=[(8,4),(4,4),(4,4),(2,2)]) (λp:Int×Int=>AV.tup [.int p.1,.int p.2]) (λl ρ H2=>And3 ((∀ x∈l,x∈([(8,4),(4,4),(4,4),(2,2)]:List (Int×Int)))) (H2=H') (Ex2 λj3 j4=>ρ=[some (bodyV ly),j1,none,j3,j4,none,none,none,none,none])) rfl ⟨λx_ hx=>hx,rfl,_,_,rfl⟩ ?_ ?_
  ·rintro x0 l ρ H2 K K1 K2 K3 ⟨hl,rfl,j3,j4,rfl⟩
   obtain⟨s,al⟩:=x0
   have hm:=hl _ (.head _)
   obtain⟨h1,h3⟩:=(by decide:∀ p∈([(8,4),(4,4),(4,4),(2,2)]:List (Int×Int)),decide (p.1 < 1)=false∧(!(([AV.int 1,.int 2,.int 4]:List AV).any λy=>veq y (.int p.2)))=false) _ hm
   apply no h1
   apply no h3
   exact K1 _ _ trivial ⟨λy hy=>hl y (.tail _ hy),rfl,_,_,rfl⟩
  ·rintro ρ H2 ⟨_,rfl,j3,j4,rfl⟩
   refine forL_mapE (l:=[0,1,2,3]) (λi:Int=>AV.tup [.int i,.ref (ly.b i)]) (λl ρ H3=>And3 ((∀ i∈l,0≤i∧i < 4)) (H3=H2) (Ex4 λj5 j6 j7 j8=>ρ=[some (bodyV ly),j1,none,j3,j4,j5,j6,j7,j8,none])) rfl
     ⟨by decide,rfl,_,_,_,_,rfl⟩ ?_ ?_
   ·rintro i l ρ H3 K K1 K2 K3 ⟨hl,rfl,j5,j6,j7,j8,rfl⟩
    obtain⟨i0,i1⟩:=hl i (.head _)
    have en:=blk_attr 0 (hB i i0 i1).1 (hB i i0 i1).2
    have en:attrOf H3 1 0 (.ref (ly.b i))=some (.int i):=en
    have es:=blk_attr 1 (hB i i0 i1).1 (hB i i0 i1).2
    have es:attrOf H3 1 1 (.ref (ly.b i))=some (.lst (stepsV (P i))):=es
    refine (?_:wB _ _ _ _ _)
    refine s_asg (where_ok (ly:=ly) (i:=i) rfl rfl i0 i1 ?_)
    apply ok_mk en
    apply no (nott (beq_self_eq_true i))
    apply ok_mk es
    refine forL_map (λp:Nat×Row=>stepV p.1 p.2) (λl2 ρ H4=>And3 ((∀ p∈l2,CkRow p.2)) (H4=H3) (∃ j8,ρ=[some (bodyV ly),j1,none,j3,j4,some (.int i),some (.ref (ly.b i)),some (.str (whereS i)),j8,none])) ?_ ?_ (P i) _ _ ⟨hck i,rfl,_,rfl⟩
    ·rintro x0 l2 ρ H4 K' K1' K2' K3' ⟨hc,rfl,j8,rfl⟩
     obtain⟨a,r⟩:=x0
     refine check_step_ok (n+1) (hc _ (.head _)) ?_
     exact K1' _ _ trivial ⟨λp hp=>hc p (.tail _ hp),rfl,_,rfl⟩
    ·rintro ρ H4 ⟨_,rfl,j8,rfl⟩
     refine check_end_ok (n+1) hB hS i0 i1 (hx i) ?_
     exact K1 _ _ trivial ⟨λy hy=>hl y (.tail _ hy),rfl,_,_,_,_,rfl⟩
   ·rintro ρ H3 ⟨_,rfl,j5,j6,j7,j8,rfl⟩
    refine set_at_ends_ok (n+1) hB hS hd λkn sK H4 ex4 gk gs=>?_
    refine forL_mapE (l:=[0,1,2,3]) (λi:Int=>AV.tup [.int i,.ref (ly.b i)]) (λl ρ H5=>And3 ((∀ i∈l,0≤i∧i < 4)) (Ext H4 H5) (Ex5 λj5 j6 j7 j8 j9=>ρ=[some (bodyV ly),j1,some (.ref kn),j3,j4,j5,j6,j7,j8,j9])) rfl
      ⟨by decide,.refl _,_,_,_,_,_,rfl⟩ ?_ ?_
    ·rintro i l ρ H5 K K1 K2 K3 ⟨hl,ex5,j5,j6,j7,j8,j9,rfl⟩
     obtain⟨i0,i1⟩:=hl i (.head _)
     have hB5:=hB.ext (ex4.trans ex5)
     have gk5:=ex5 _ _ gk
     have gs5:=ex5 _ _ (gs i i0 i1)
     obtain⟨hda1,hda2⟩:=hda i i0 i1
     have hkx:getIx H5 (.ref kn) (.int i)=some (.ref (sK i)):=kv_ix (g:=λi=>.ref (sK i)) gk5 i0 i1
     apply ok_mk hkx
     apply ok_mk hkx
     apply ok_mk (setOfV_set gs5)
     intro nw hnw
     refine (?_:wB _ _ _ _ _)
     refine s_asg (where_ok (ly:=ly) (i:=i) rfl rfl i0 i1 ?_)
     have hB6:∀ m,BodyAt (upd H5 nw (.set m)) ly P E:=λm=>hB5.ext (Ext.new hnw)
     have es:∀ m,attrOf (upd H5 nw (.set m)) 1 1 (.ref (ly.b i))=some (.lst (stepsV (P i))):=λm=>blk_attr 1 (hB6 m i i0 i1).1 (hB6 m i i0 i1).2
     have ee:∀ m,attrOf (upd H5 nw (.set m)) 1 2 (.ref (ly.b i))=some (endV (ly.e i) (E i)):=λm=>blk_attr 2 (hB6 m i i0 i1).1 (hB6 m i i0 i1).2
     apply ok_mk (es _)
     refine forL_map (λp:Nat×Row=>stepV p.1 p.2) (λ(l2:List (Nat×Row)) ρ H6=>Ex2 λj8 m=>And5 (∀ p∈l2,p.2.dst < 21) (ρ=[some (bodyV ly),j1,some (.ref kn),j3,j4,some (.int i),some (.ref (ly.b i)),some (.str (whereS i)),j8,some (.ref nw)]) (H6=upd H5 nw (.set m)) (DaRows (rowsL l2) m)
       (afterD (rowsL l2) m=afterD (rowsOf P i) (kkF P br i))) ?_ ?_ (P i) _ _ ⟨_,_,hd i,rfl,rfl,hda1,rfl⟩
     ·rintro x0 l2 ρ H6 K' K1' K2' K3' ⟨j8,m,hdl,rfl,rfl,hdr,haf⟩
      obtain⟨a,r⟩:=x0
      obtain⟨hdr1,hdr2⟩:=hdr
      have hdlt:=hdl _ (.head _)
      have hdlt:r.dst < 21:=hdlt
      refine check_set_ok (n+2) (upd_self ..) hdr1 ?_
      refine bcase (b:=decide (r.dst ≥ 0)) (λhxd=>?_) λhxd=>?_
      ·
       apply no hxd
       have hA:addD m r=m:=by simp only[addD,hxd]
       rw[hA] at hdr2
       refine K1' _ _ trivial ⟨_,m,λp hp=>hdl p (.tail _ hp),rfl,rfl,hdr2,?_⟩
       refine rwS haf ?_;refine (?_:_=afterD _ (addD m r));refine rwI hA ?_;rfl
      ·
       apply yes hxd
       have hA:addD m r=addS m r.dst:=by simp only[addD,hxd]
       rw[hA] at hdr2
       have h0:=of_decide_eq_true hxd
       refine add_i (upd_self ..) h0 (by lia) ?_
       refine rwI (upd_upd ..) ?_
       refine K1' _ _ trivial ⟨_,_,λp hp=>hdl p (.tail _ hp),rfl,rfl,hdr2,?_⟩
       refine rwS haf ?_;refine (?_:_=afterD _ (addD m r));refine rwI hA ?_;rfl
     ·rintro ρ H6 ⟨j8,m,_,rfl,rfl,_,haf⟩
      have haf:m=afterD (rowsOf P i) (kkF P br i):=haf
      apply ok_mk (ee _)
      refine check_set_ok (n+2) (upd_self ..) (by refine rwI haf ?_;exact hda2) ?_
      exact K1 _ _ trivial ⟨λy hy=>hl y (.tail _ hy),ex5.trans (Ext.new hnw),_,_,_,_,_,rfl⟩
    ·rintro ρ H5 ⟨_,ex5,j5,j6,j7,j8,j9,rfl⟩
     exact h H5 (ex4.trans ex5)
noncomputable def WellO (o:AObj):Prop:=∃ (ns:List Int) (a s:Int),o=.list [.lst (ns.map .int),.int a,.int s]∧0≤a
inductive VOpd:Opd→Prop
 |r {n:Int}:7≤n→n < 11→VOpd (.r n)
 |k {v:Int}:0≤v→v≤4294967295→VOpd (.k v)
inductive AccR (h:Int):Row→Prop
 |st {v w f}:VOpd v→WOk w→AccR h (.store (.r h) v w f)
 |ld {d w s f}:7≤d→d < 11→WOk w→AccR h (.load d (.r h) w s f)
inductive Fr (f:Int):Row→Prop
 |ld:Fr f (.load f (.r 4) 4 false false)
 |cp {b:Int}:b=1∨b=2∨b=3→Fr f (.copy f (.r b))
 |ad:Fr f (.bin .add f (.r 2) (.k 4))
inductive Line (f:Int):List Row→Prop
 |acc {h r}:h=1∨h=2∨h=3∨h=5∨h=6→AccR h r→Line f [r]
 |st4 {b:Int}:b=2∨b=3∨b=6→Line f [.store (.r 4) (.r b) 4 false]
 |reach {r0 r1}:Fr f r0→AccR f r1→Line f [r0,r1]
 |mv {a b:Int} {m}:a=2∨a=3∨a=6→b=1∨b=2∨b=3→Line f [.move (.r a) (.r b) m]
 |bin {o d x y}:o≠.shr→7≤d→d < 11→VOpd x→VOpd y→Line f [.bin o d x y]
 |see {d x}:7≤d→d < 11→VOpd x→Line f [.call d x false]
 |poke {d b:Int}:7≤d→d < 11→b=1∨b=2∨b=3→Line f [.call d (.r b) true]
theorem mul_small {a b:Int}(h:smallInt b=true):opBin .mul (.int a) (.int b)=some (.int (a * b)):=by
 refine (?_:(if (smallInt a||smallInt b)=true then _ else _)=_)
 (refine rwI h ?_;refine rwI (Bool.or_true ..) ?_);rfl
theorem mod_nz (x:Int){y:Int}(hy:y≠0):opBin .mod (.int x) (.int y)=some (.int (x.fmod y)):=by
 refine (?_:(if (y != 0)=true then _ else _)=_)
 (refine rwI (if_pos (bne_iff_ne.mpr hy)) ?_;rfl)
theorem unpack_list {H:AHeap}{a n:Nat}{xs:List AV}(h:H a=some (.list xs))(hn:xs.length=n):unpackOf H n (.ref a)=some xs:=by
 unfold unpackOf
 refine rwI (show itemsOf H (.ref a)=some (xs,some a) from congrArg (lstO a) h) ?_
 exact if_pos hn
section
variable {H:AHeap}{wl:Nat}{o:AObj}
theorem draw_ok (n:Nat){k:Int}{Q:AV→AHeap→Prop}(hw:H wl=some o)(ho:WellO o)(hk:0 < k)(h:∀ r o',0≤r→r < k→WellO o'→Q (.int r) (upd H wl o')):Cn tabP (n+1) 30 [.ref wl,.int k] H Q:=by
 obtain⟨ns,a,s,rfl,ha⟩:=ho
 refine enter rfl rfl ?_
 have main:∀ pick:Int,wB (Cn tabP n) [.asgI (.v 0) (.int 1) (.bin .add (.v 4) (.int 1)),.asgI (.v 0) (.int 2) (.bin .mod (.bin .add (.bin .add (.bin .add (.bin .mul (.v 5) (.int 37)) (.bin .mod (.v 2) (.int 97))) (.bin .mul (.v 4) (.int 3))) (.int 5)) (.int 1009)),.ret (.bin .mod (.v 2) (.v 1))]
   [some (.ref wl),some (.int k),some (.int pick),some (.lst (ns.map .int)),some (.int a),some (.int s)] H λf x_ H'=>Q (retOf f) H':=by
  intro pick
  refine setl_i hw (by decide) (show (1:Int) < 3 by decide) (show 3≤100000 by decide) ?_
  apply ok_mk (mul_small (a:=s) (b:=37) rfl)
  apply ok_mk (mul_small (a:=a) (b:=3) rfl)
  refine setl_i (upd_self ..) (by decide) (show (2:Int) < 3 by decide) (show 3≤100000 by decide) ?_
  refine rwI (upd_upd ..) ?_
  apply ok_mk (mod_nz pick (Int.ne_of_gt hk))
  exact h _ _ (Int.fmod_nonneg_of_pos pick hk) (Int.fmod_lt_of_pos pick hk) ⟨ns,a+1,_,rfl,by lia⟩
 apply ok_mk (unpack_list (n:=3) hw rfl)
 cases hlt:decide (a < ((ns.map AV.int).length:Int)) with
 |true=>
  apply yes hlt
  have hlt:=of_decide_eq_true hlt
  rw[List.length_map] at hlt
  obtain⟨x,hx⟩:∃ x,ns[a.toNat]? = some x:=⟨_,List.getElem?_eq_getElem ((Int.toNat_lt (by assumption)).mpr hlt)⟩
  have gx:getIx H (.lst (ns.map .int)) (.int a)=some (.int x):=by
   refine (?_:atIx _ _=_)
   (rewrite [atIx];refine rwI (if_pos ha) ?_;refine rwI (List.getElem?_map) ?_;refine rwI hx ?_);rfl
  apply ok_mk gx
  exact main x
 |false=>
  apply no hlt
  exact main s
theorem edge_ok {r:Int}(h0:0≤r)(h1:r < 8):∃ v,getIx H (globV 2) (.int r)=some (.int v)∧0≤v∧v≤4294967295:=by
 obtain⟨k,rfl⟩:=Int.eq_ofNat_of_zero_le h0
 rcases (by decide:∀ p:Nat,p < 8→p=0∨p=1∨p=2∨p=3∨p=4∨p=5∨p=6∨p=7) k (Int.ofNat_lt.mp h1) with rfl|rfl|rfl|rfl|rfl|rfl|rfl|rfl<;>exact⟨_,rfl,by decide,by decide⟩
theorem any_ok (n:Nat){Q:AV→AHeap→Prop}(hw:H wl=some o)(ho:WellO o)(h:∀ v o',VOpd v→WellO o'→Q (opdV v) (upd H wl o')):Cn tabP (n+2) 31 [.ref wl] H Q:=by
 refine enter rfl rfl ?_
 refine draw_ok n hw ho (by decide) λr o1 r0 r1 ho1=>?_
 cases hr:decide (r < 4) with
 |true=>
  apply yes hr
  have hr:=of_decide_eq_true hr
  exact h (.r (7+r)) o1 (.r (by lia) (by lia)) ho1
 |false=>
  apply no hr
  refine draw_ok n (upd_self ..) ho1 (by decide) λr2 o2 q0 q1 ho2=>?_
  obtain⟨v,hv,v0,v1⟩:=edge_ok (H:=upd (upd H wl o1) wl o2) q0 q1
  apply ok_mk hv
  refine rwI (upd_upd ..) ?_
  exact h (.k v) o2 (.k v0 v1) ho2
theorem access_ok (n:Nat){hm w:Int}{f:Bool}{Q:AV→AHeap→Prop}(hw:H wl=some o)(ho:WellO o)(hW:WOk w)(h:∀ r o',AccR hm r→WellO o'→Q (rowV r) (upd H wl o')):Cn tabP (n+3) 32 [.ref wl,.int hm,.int w,.bool f] H Q:=by
 refine enter rfl rfl ?_
 refine draw_ok (n+1) hw ho (by decide) λr o1 r0 r1 ho1=>?_
 have r2:r=0∨r=1:=by lia
 rcases r2 with rfl|rfl
 ·refine any_ok n (upd_self ..) ho1 λv o2 hv ho2=>?_
  refine rwI (upd_upd ..) ?_
  exact h (.store (.r hm) v w f) o2 (.st hv hW) ho2
 ·refine draw_ok (n+1) (upd_self ..) ho1 (by decide) λr2 o2 q0 q1 ho2=>?_
  refine draw_ok (n+1) (upd_self ..) ho2 (by decide) λr3 o3 p0 p1 ho3=>?_
  (refine rwI (upd_upd ..) ?_;refine rwI (upd_upd ..) ?_)
  exact h (.load (7+r2) (.r hm) w (r3==1) f) o3 (.ld (by lia) (by lia) hW) ho3
end
theorem three {H:AHeap}{a b c r:Int}(h0:0≤r)(h1:r < 3):∃ v,getIx H (.tup [.int a,.int b,.int c]) (.int r)=some (.int v)∧(v=a∨v=b∨v=c):=by
 have:r=0∨r=1∨r=2:=by lia
 rcases this with rfl|rfl|rfl<;>exact⟨_,rfl,by simp⟩
theorem twoI {H:AHeap}{a b r:Int}(h0:0≤r)(h1:r < 2):∃ v,getIx H (.tup [.int a,.int b]) (.int r)=some (.int v)∧(v=a∨v=b):=by
 have:r=0∨r=1:=by lia
 rcases this with rfl|rfl<;>exact⟨_,rfl,by simp⟩
theorem wok3 {v:Int}(h:v=4∨v=1∨v=2):WOk v:=by unfold WOk;lia
structure WR (H:AHeap)(wl rw:Nat)(L:List AV):Prop where
 w:∃ o,H wl=some o∧WellO o
 r:H rw=some (.list L)
 n:wl≠rw
noncomputable def After (H H':AHeap) (wl rw:Nat) (L:List AV):Prop:=WR H' wl rw L∧∀ y,y≠wl→y≠rw→H' y=H y
section
variable {H H':AHeap}{wl rw:Nat}{L:List AV}
theorem After.start (h:WR H wl rw L):After H H wl rw L:=⟨h,λx_ x_ x_=>rfl⟩
theorem After.well (h:After H H' wl rw L){o:AObj}(ho:WellO o):After H (upd H' wl o) wl rw L:=
 ⟨⟨⟨o,upd_self ..,ho⟩,by refine rwI (upd_ne _ (Ne.symm h.1.n)) ?_;exact h.1.r,h.1.n⟩,λy a b=>by refine rwI (upd_ne _ a) ?_;exact h.2 y a b⟩
theorem After.rows (h:After H H' wl rw L)(L':List AV):After H (upd H' rw (.list L')) wl rw L':=
 ⟨⟨by obtain⟨o,a,b⟩:=h.1.w;exact⟨o,by refine rwI (upd_ne _ h.1.n) ?_;exact a,b⟩,upd_self ..,h.1.n⟩,λy a b=>by refine rwI (upd_ne _ b) ?_;exact h.2 y a b⟩
theorem drawA (n:Nat){H₀:AHeap}{k:Int}{Q:AV→AHeap→Prop}(a:After H₀ H wl rw L)(hk:0 < k)(h:∀ r H',0≤r→r < k→After H₀ H' wl rw L→Q (.int r) H'):Cn tabP (n+1) 30 [.ref wl,.int k] H Q:=by
 obtain⟨o,h1,h2⟩:=a.1.w
 exact draw_ok n h1 h2 hk λr o' r0 r1 ho'=>h r _ r0 r1 (a.well ho')
theorem anyA (n:Nat){H₀:AHeap}{Q:AV→AHeap→Prop}(a:After H₀ H wl rw L)(h:∀ v H',VOpd v→After H₀ H' wl rw L→Q (opdV v) H'):Cn tabP (n+2) 31 [.ref wl] H Q:=by
 obtain⟨o,h1,h2⟩:=a.1.w
 exact any_ok n h1 h2 λv o' hv ho'=>h v _ hv (a.well ho')
theorem accessA (n:Nat){H₀:AHeap}{hm w:Int}{f:Bool}{Q:AV→AHeap→Prop}(a:After H₀ H wl rw L)(hW:WOk w)(h:∀ r H',AccR hm r→After H₀ H' wl rw L→Q (rowV r) H'):Cn tabP (n+3) 32 [.ref wl,.int hm,.int w,.bool f] H Q:=by
 obtain⟨o,h1,h2⟩:=a.1.w
 exact access_ok n h1 h2 hW λr o' hr ho'=>h r _ hr (a.well ho')
theorem appA {H₀:AHeap}{v:AV}{Q:AV→AHeap→Prop}(a:After H₀ H wl rw L)(hL:L.length≤1000)(h:∀ H',After H₀ H' wl rw (L++[v])→Q .none H'):opAppend H (.ref rw) v Q:=
 ⟨rw,L,rfl,a.1.r,by lia,h _ (a.rows _)⟩
theorem liA {H₀:AHeap}(a:After H₀ H wl rw L):isLi H (.ref rw):=⟨rw,L,rfl,a.1.r⟩
theorem reach_ok (n:Nat){f:Int}{H₀:AHeap}{Q:AV→AHeap→Prop}(a:After H₀ H wl rw L)(hL:L.length≤900)(h:∀ r0 r1 H',Fr f r0→AccR f r1→After H₀ H' wl rw (L++[rowV r0,rowV r1])→Q .none H'):Cn tabP (n+4) 33 [.ref wl,.int f,.ref rw] H Q:=by
 refine enter rfl rfl ?_
 refine drawA (n+2) a (by decide) λr H1 r0 r1 a1=>?_
 have rest:∀ (row:Row) H2,Fr f row→After H₀ H2 wl rw (L++[rowV row])→wB (Cn tabP (n+3)) [.ex (.append (.v 2) (.call 32 [.v 0,.v 1,.idx (.tup [.int 4,.int 1,.int 2]) (.call 30 [.v 0,.int 3]),.cmp .eq (.call 30 [.v 0,.int 6]) (.int 5)]))]
   [some (.ref wl),some (.int f),some (.ref rw),some (.int r)] H2 λf x_ H'=>Q (retOf f) H':=by
  intro row H2 hrow a2
  refine And.intro (liA a2) ?_
  refine drawA (n+2) a2 (by decide) λq H3 q0 q1 a3=>?_
  obtain⟨w,hw,hw3⟩:=three (H:=H3) (a:=4) (b:=1) (c:=2) q0 q1
  apply ok_mk hw
  refine drawA (n+2) a3 (by decide) λq2 H4 p0 p1 a4=>?_
  refine accessA n a4 (wok3 hw3) λr1 H5 hr1 a5=>?_
  refine appA a5 (by (refine rwI List.length_append ?_;refine rwI List.length_singleton ?_);lia) λH6 a6=>?_
  exact h row r1 H6 hrow hr1 (by rw[List.append_assoc] at a6;exact a6)
 have r4:r=0∨r=1∨r=2∨r=3:=by lia
 have hL':L.length≤1000:=by lia
 rcases r4 with rfl|rfl|rfl|rfl
 ·exact And.intro (liA a1) (appA a1 hL' λH2 a2=>rest _ H2 .ld a2)
 ·refine And.intro (liA a1) ?_
  refine drawA (n+2) a1 (by decide) λq H2 q0 q1 a2=>?_
  exact appA a2 hL' λH3 a3=>rest (.copy f (.r (2+q))) H3 (.cp (by lia)) a3
 ·exact And.intro (liA a1) (appA a1 hL' λH2 a2=>rest _ H2 .ad a2)
 ·exact And.intro (liA a1) (appA a1 hL' λH2 a2=>rest (.copy f (.r 1)) H2 (.cp (.inl rfl)) a2)
end
section
variable {H H':AHeap}{wl rw:Nat}{L:List AV}
@[elab_as_elim] theorem go11 {P:Int→Prop} (r:Int) (h0:0≤r) (h1:r < 11) (h:∀ x∈[(0:Int),1,2,3,4,5,6,7,8,9,10],P x):P r:=by
 obtain⟨k,rfl⟩:=Int.eq_ofNat_of_zero_le h0
 exact h _ ((by decide:∀ k:Nat,k < 11→(k:Int)∈[(0:Int),1,2,3,4,5,6,7,8,9,10]) k (Int.ofNat_lt.mp h1))
@[elab_as_elim] theorem go2 {P:Int→Prop} (r:Int) (h0:0≤r) (h1:r < 2) (a:P 0) (b:P 1):P r:=by
 obtain⟨k,rfl⟩:=Int.eq_ofNat_of_zero_le h0
 rcases (by decide:∀ k:Nat,k < 2→k=0∨k=1) k (Int.ofNat_lt.mp h1) with rfl|rfl
 ·exact a
 ·exact b
theorem bop5 {H:AHeap}{r:Int}(h0:0≤r)(h1:r < 5){k:AV→Prop}(q:∀ bo:Bop,bo≠.shr→k (.str bo.name)):ok (getIx H (.tup [.str "add",.str "xor",.str "mul",.str "divu",.str "ltu"]) (.int r)) k:=by
 obtain⟨i,rfl⟩:=Int.eq_ofNat_of_zero_le h0
 have:=Int.ofNat_lt.mp h1
 rcases (by decide:∀ k:Nat,k < 5→k=0∨k=1∨k=2∨k=3∨k=4) i this with rfl|rfl|rfl|rfl|rfl
 ·exact q .add nofun
 ·exact q .xor nofun
 ·exact q .mul nofun
 ·exact q .divu nofun
 ·exact q .ltu nofun
theorem ok3 {H:AHeap}{a b c r:Int}(h0:0≤r)(h1:r < 3){k:AV→Prop}(q:∀ v,(v=a∨v=b∨v=c)→k (.int v)):ok (getIx H (.tup [.int a,.int b,.int c]) (.int r)) k:=
 let ⟨v,e,h⟩:=three (H:=H) (a:=a) (b:=b) (c:=c) h0 h1
 ok_mk e (q v h)
theorem ok2 {H:AHeap}{a b r:Int}(h0:0≤r)(h1:r < 2){k:AV→Prop}(q:∀ v,(v=a∨v=b)→k (.int v)):ok (getIx H (.tup [.int a,.int b]) (.int r)) k:=
 let ⟨v,e,h⟩:=twoI (H:=H) (a:=a) (b:=b) h0 h1
 ok_mk e (q v h)
theorem line_ok (n:Nat){f:Int}{H₀:AHeap}{Q:AV→AHeap→Prop}(a:After H₀ H wl rw L)(hL:L.length≤900)(h:∀ R H',Line f R→After H₀ H' wl rw (L++R.map rowV)→Q .none H'):Cn tabP (n+5) 34 [.ref wl,.int f,.ref rw] H Q:=by
 refine enter rfl rfl ?_
 have hL':L.length≤1000:=by lia
 refine drawA (n+3) a (by decide) λr H1 r0 r1 a1=>?_
 clear a
 have one:∀ (b:Int) (w:Int) (f':Bool) H2,(b=1∨b=2∨b=3∨b=5∨b=6)→WOk w→After H₀ H2 wl rw L→isLi H2 (.ref rw)∧Cn tabP (n+4) 32 [.ref wl,.int b,.int w,.bool f'] H2 λy H=>opAppend H (.ref rw) y λx_ H=>Q .none H:=
  λb w f' H2 hb hw a2=>⟨liA a2,accessA (n+1) a2 hw λr1 H4 hr1 a4=>appA a4 hL' λH5 a5=>h [r1] H5 (.acc hb hr1) a5⟩
 have st4:isLi H1 (.ref rw)∧Cn tabP (n+4) 30 [.ref wl,.int 3] H1 λq H=>ok (getIx H (.tup [.int 2,.int 3,.int 6]) q) λb=>opAppend H (.ref rw) (.tup [.str "store",.int (-1),.lst [.tup [.str "r",.int 4],.tup [.str "r",b]],.int 4,.bool false]) λx_ H=>Q .none H:=by
  refine And.intro (liA a1) (drawA (n+3) a1 (by decide) λq H2 q0 q1 a2=>?_)
  exact ok3 q0 q1 λb hb3=>appA a2 hL' λH3 a3=>h [.store (.r 4) (.r b) 4 false] H3 (.st4 hb3) a3
 have rea:Cn tabP (n+4) 33 [.ref wl,.int f,.ref rw] H1 (λx_ H=>Q .none H):=reach_ok n a1 hL λr0 r1 H2 h0 h1 a2=>h [r0,r1] H2 (.reach h0 h1) a2
 refine go11 r r0 r1 ?_
 refine (consA ?_ (consA st4 (consA st4 (consA rea (consA rea (consA ?_ (consA ?_ (consA ?_ (consA ?_ (consA ?_ (consA ?_ (λx hx=>nomatch hx))))))))))))
 ·refine drawA (n+3) a1 (by decide) λq H2 q0 q1 a2=>?_
  refine ok3 (H:=_) (a:=0) (b:=1) (c:=3) q0 q1 λwh hw3=>?_
  refine bcase (b:=decide (wh < 3)) (λhlt=>?_) λhlt=>?_
  rotate_left
  ·apply yes hlt
   refine drawA (n+3) a2 (by decide) λq2 H3 p0 p1 a3=>?_
   refine ok3 (H:=_) (a:=4) (b:=1) (c:=2) p0 p1 λw hww=>?_
   exact one (2+wh) w false H3 (by lia) (wok3 hww) a3
  ·apply no hlt
   refine drawA (n+3) a2 (by decide) λq2 H3 p0 p1 a3=>?_
   exact one (2+wh) (1+q2) false H3 (by lia) (by unfold WOk;lia) a3
 ·refine drawA (n+3) a1 (by decide) λq H2 q0 q1 a2=>?_
  refine ok2 (H:=_) (a:=1) (b:=6) q0 q1 λhm hm2=>?_
  refine And.intro (liA a2) (drawA (n+3) a2 (by decide) λq2 H3 p0 p1 a3=>?_)
  refine ok3 (H:=_) (a:=4) (b:=1) (c:=2) p0 p1 λw hww=>?_
  refine drawA (n+3) a3 (by decide) λq3 H4 s0 s1 a4=>?_
  exact (one hm w (q3==2) H4 (by lia) (wok3 hww) a4).2
 ·exact one 5 4 false H1 (by decide) (.inr (.inr rfl)) a1
 ·refine And.intro (liA a1) (drawA (n+3) a1 (by decide) λq H2 q0 q1 a2=>?_)
  refine drawA (n+3) a2 (by decide) λq2 H3 p0 p1 a3=>?_
  refine ok3 (H:=_) (a:=4) (b:=1) (c:=2) p0 p1 λw hww=>?_
  exact (one (2+q) w true H3 (by lia) (wok3 hww) a3).2
 ·refine drawA (n+3) a1 (by decide) λq H2 q0 q1 a2=>?_
  refine ok3 (H:=_) (a:=2) (b:=3) (c:=6) q0 q1 λx hx3=>?_
  refine drawA (n+3) a2 (by decide) λq2 H3 p0 p1 a3=>?_
  refine ok3 (H:=_) (a:=2) (b:=3) (c:=1) p0 p1 λy hy3=>?_
  refine And.intro (liA a3) (drawA (n+3) a3 (by decide) λq3 H4 s0 s1 a4=>?_)
  exact appA a4 hL' λH6 a6=>h [.move (.r x) (.r y) (q3==3)] H6 (.mv (by lia) (by lia)) a6
 ·refine drawA (n+3) a1 (by decide) λq H2 q0 q1 a2=>?_
  refine drawA (n+3) a2 (by decide) λq2 H3 p0 p1 a3=>?_
  refine bop5 (H:=_) p0 p1 λbo hns=>?_
  refine And.intro (liA a3) (anyA (n+2) a3 λx H4 hx a4=>anyA (n+2) a4 λy H5 hy a5=>?_)
  exact appA a5 hL' λH6 a6=>h [.bin bo (7+q) x y] H6 (.bin hns (by lia) (by lia) hx hy) a6
 ·refine drawA (n+3) a1 (by decide) λq H2 q0 q1 a2=>?_
  refine drawA (n+3) a2 (by decide) λq2 H3 p0 p1 a3=>?_
  refine go2 q2 p0 p1 ?_ ?_
  ·refine And.intro (liA a3) (anyA (n+2) a3 λx H4 hx a4=>?_)
   exact appA a4 hL' λH6 a6=>h [.call (7+q) x false] H6 (.see (by lia) (by lia) hx) a6
  ·refine And.intro (liA a3) (drawA (n+3) a3 (by decide) λq3 H4 s0 s1 a4=>?_)
   refine ok3 (H:=_) (a:=2) (b:=3) (c:=1) s0 s1 λy hy3=>?_
   exact appA a4 hL' λH6 a6=>h [.call (7+q) (.r y) true] H6 (.poke (by lia) (by lia) (by lia)) a6
end
noncomputable def LinesOk (ls:List (List Row)):Prop:=ls.length≤3∧∀ l∈ls,∃ f,11≤f∧f < 21∧Line f l
noncomputable def ledR:Bool→List Row:=@λy_1=>match @y_1 with
 |true=>[.slot 1 0]
 |false=>[]
noncomputable def Blk (i:Int) (R:List Row):Prop:=∃ (b:Bool) (ls:List (List Row)),LinesOk ls∧R=ledR b++ls.flatten++(if i=2 then [Row.bin .shr 0 (.r 0) (.k 1)] else [])
noncomputable def blk0:List Row:=[.slot 2 0,.slot 3 1,.slot 4 2,.slot 5 3,.name 6,.store (.r 4) (.r 6) 4 false]
structure Drawn (P:Int→List Row):Prop where
 p0:P 0=blk0
 pl:∀ i,1≤i→i < 4→Blk i (P i)
structure EndsOk (br:Bool)(E:Ens):Prop where
 e0:E 0=.jump 1
 e1:(br=false∧E 1=.jump 2)∨(br=true∧∃ r,7≤r∧r < 11∧E 1=.branch r 2 3)
 e2:E 2=.branch 0 1 3
 e3:∃ r,7≤r∧r < 11∧E 3=.give r
noncomputable def WordsOk (ws:List Int):Prop:=ws.length=6∧(∀ w∈ws,0≤w∧w≤4294967295)∧ws.getD 1 0=8192
noncomputable def rowsV (l:List Row):AV:=.lst (l.map rowV)
noncomputable def partsV (P:Int→List Row):AV:=.lst [rowsV (P 0),rowsV (P 1),rowsV (P 2),rowsV (P 3)]
noncomputable def endsV (E:Ens):AV:=.lst [endR (E 0),endR (E 1),endR (E 2),endR (E 3)]
structure PW (G:AHeap)(wl pr:Nat)(p:Int→Nat)(R:Int→List Row):Prop where
 w:∃ o,G wl=some o∧WellO o
 l:G pr=some (.list [.ref (p 0),.ref (p 1),.ref (p 2),.ref (p 3)])
 e:∀ i,0≤i→i < 4→G (p i)=some (.list ((R i).map rowV))
 inj:∀ i j,0≤i→i < 4→0≤j→j < 4→i≠j→p i≠p j
 nw:∀ i,0≤i→i < 4→wl≠p i
 nr:∀ i,0≤i→i < 4→pr≠p i
 nwr:wl≠pr
section
variable {G:AHeap}{wl pr:Nat}{p:Int→Nat}{R:Int→List Row}
theorem PW.well (h:PW G wl pr p R){o:AObj}(ho:WellO o):PW (upd G wl o) wl pr p R:=
 ⟨⟨o,upd_self ..,ho⟩,(upd_ne _ (Ne.symm h.nwr)).trans h.l,λi a b=>(upd_ne _ (Ne.symm (h.nw i a b))).trans (h.e i a b),h.inj,h.nw,h.nr,h.nwr⟩
theorem PW.wr (h:PW G wl pr p R){i:Int}(a:0≤i)(b:i < 4):WR G wl (p i) ((R i).map rowV):=⟨h.w,h.e i a b,h.nw i a b⟩
theorem PW.after (h:PW G wl pr p R){i:Int}(a:0≤i)(b:i < 4){G':AHeap}{N:List Row}(hA:After G G' wl (p i) ((R i).map rowV++N.map rowV)):PW G' wl pr p (at1 i (R i++N) R):=by
 refine⟨hA.1.w,(hA.2 _ (Ne.symm h.nwr) (h.nr i a b)).trans h.l,λj x y=>?_,h.inj,h.nw,h.nr,h.nwr⟩
 by_cases e:j=i
 ·(refine rwI e ?_;refine rwI at1_self ?_;refine rwI List.map_append ?_);exact hA.1.r
 ·refine rwI (at1_ne e) ?_;exact (hA.2 _ (Ne.symm (h.nw j x y)) (h.inj j i x y a b e)).trans (h.e j x y)
theorem PW.push (h:PW G wl pr p R){i:Int}(a:0≤i)(b:i < 4)(r:Row)(hl:(R i).length≤1000){Q:AV→AHeap→Prop}(k:∀ G,PW G wl pr p (at1 i (R i++[r]) R)→Q .none G):isLi G (.ref (p i))∧opAppend G (.ref (p i)) (rowV r) Q:=
 app_i (h.e i a b) (by refine rwI (List.length_map ..) ?_;lia) (k _ (h.after a b (N:=[r]) ((After.start (h.wr a b)).rows _)))
theorem PW.ix {H:AHeap}(h:PW G wl pr p R){i:Int}(a:0≤i)(b:i < 4):getIx G (.ref pr) (.int i)=some (.ref (p i)):=kv_ix (g:=λi=>.ref (p i)) h.l a b
theorem PW.draw (n:Nat)(h:PW G wl pr p R){k:Int}(hk:0 < k){Q:AV→AHeap→Prop}(q:∀ r G,0≤r→r < k→PW G wl pr p R→Q (.int r) G):Cn tabP (n+1) 30 [.ref wl,.int k] G Q:=by
 obtain⟨o,g,ho⟩:=h.w
 exact draw_ok n g ho hk λr o' r0 r1 ho'=>q r _ r0 r1 (h.well ho')
end
theorem PW.new {H:AHeap}{wl p0 p1 p2 p3 pr:Nat}{o:AObj}{R0:List Row}(ho:WellO o)(h0:upd H wl o p0=none)(h1:upd (upd H wl o) p0 (.list (R0.map rowV)) p1=none)(h2:upd (upd (upd H wl o) p0 (.list (R0.map rowV))) p1 (.list []) p2=none)
  (h3:upd (upd (upd (upd H wl o) p0 (.list (R0.map rowV))) p1 (.list [])) p2 (.list []) p3=none) (hr:upd (upd (upd (upd (upd H wl o) p0 (.list (R0.map rowV))) p1 (.list [])) p2 (.list [])) p3 (.list []) pr=none) :
  PW (upd (upd (upd (upd (upd (upd H wl o) p0 (.list (R0.map rowV))) p1 (.list [])) p2 (.list [])) p3 (.list [])) pr (.list [.ref p0,.ref p1,.ref p2,.ref p3])) wl pr (pick4 p0 p1 p2 p3) (pick4 R0 [] [] []):=by
 have a0:=new_ne h0
 have a1:=new_ne h1
 have b1:=new_ne a1.2
 have a2:=new_ne h2
 have b2:=new_ne a2.2
 have c2:=new_ne b2.2
 have a3:=new_ne h3
 have b3:=new_ne a3.2
 have c3:=new_ne b3.2
 have d3:=new_ne c3.2
 have ar:=new_ne hr
 have br:=new_ne ar.2
 have cr:=new_ne br.2
 have dr:=new_ne cr.2
 have er:=new_ne dr.2
 refine⟨⟨o,(upd_ne _ er.1.symm).trans ((upd_ne _ d3.1.symm).trans ((upd_ne _ c2.1.symm).trans ((upd_ne _ b1.1.symm).trans ((upd_ne _ a0.1.symm).trans (upd_self ..))))),ho⟩,upd_self ..,all4 ?_ ?_ ?_ ?_,?_,all4 a0.1.symm b1.1.symm c2.1.symm d3.1.symm,all4 dr.1 cr.1 br.1 ar.1,er.1.symm⟩
 ·exact (upd_ne _ dr.1.symm).trans ((upd_ne _ c3.1.symm).trans ((upd_ne _ b2.1.symm).trans ((upd_ne _ a1.1.symm).trans (upd_self ..))))
 ·exact (upd_ne _ cr.1.symm).trans ((upd_ne _ b3.1.symm).trans ((upd_ne _ a2.1.symm).trans (upd_self ..)))
 ·exact (upd_ne _ br.1.symm).trans ((upd_ne _ a3.1.symm).trans (upd_self ..))
 ·exact (upd_ne _ ar.1.symm).trans (upd_self ..)
 ·have z:∀ {x:Nat} {i:Int},i≠i→x≠x:=λh=>(h rfl).elim
  refine λi j a b=>all4 (P:=λi=>∀ j,0≤j→j < 4→i≠j→pick4 p0 p1 p2 p3 i≠pick4 p0 p1 p2 p3 j) ?_ ?_ ?_ ?_ i a b j
  ·exact all4 (λh=>z h) (λx_=>a1.1.symm) (λx_=>b2.1.symm) λx_=>c3.1.symm
  ·exact all4 (λx_=>a1.1) (λh=>z h) (λx_=>a2.1.symm) λx_=>b3.1.symm
  ·exact all4 (λx_=>b2.1) (λx_=>a2.1) (λh=>z h) λx_=>a3.1.symm
  ·exact all4 (λx_=>c3.1) (λx_=>b3.1) (λx_=>a3.1) λh=>z h
theorem rangeL_zip (a:Int)(k:Nat):rangeL a k=(List.replicate k ()).zipIdx.map λx=>.int (a+x.2):=by
 have:∀ (k s:Nat) (a:Int),rangeL (a+s) k=(List.zipIdx (List.replicate k ()) s).map λx=>.int (a+x.2):=by
  intro k
  induction k with
  |zero=>intro s a;rfl
  |succ k ih=>
   intro s a
   (refine (?_:AV.int (a+s)::rangeL (a+s+1) k=_);refine rwI List.replicate_succ ?_;refine rwI List.zipIdx_cons ?_;refine rwI List.map_cons ?_;refine rwS (ih (s+1) a) ?_)
   congr 2;lia
 have:=this k 0 a
 rw[Int.natCast_zero,Int.add_zero] at this
 exact this
structure PL (f:Int)(k:Nat)(ls:List (List Row))(f2:Int):Prop where
 ok:∀ l∈ls,∃ f,11≤f∧f < 21∧Line f l
 len:ls.length+k≤3
 f0:11≤f2
 f1:f2+k≤f+3
 fl:ls.flatten.length≤2 * ls.length
theorem Line.len {f:Int}{N:List Row}(h:Line f N):N.length≤2:=by cases h<;>(first|exact Nat.le_refl 2|exact Nat.le_succ 1)
theorem PL.step {f:Int}{k:Nat}{ls:List (List Row)}{f2:Int}(h:PL f (k+1) ls f2)(hf:f≤17){N:List Row}(hN:Line f2 N):PL f k (ls++[N]) (f2+1):=by
 have l1:=h.len
 have l2:=h.f0
 have l3:=h.f1
 have l4:=h.fl
 have l5:=hN.len
 refine⟨λl hl=>(List.mem_append.mp hl).elim (h.ok l) λe=>⟨f2,l2,by lia,mem1 e ▸ hN⟩,by refine rwI List.length_append ?_;exact Nat.le_trans (Nat.le_of_eq (Nat.add_right_comm ls.length 1 k)) l1,by lia,by lia,?_⟩
 rw[List.flatten_append,List.length_append,List.length_append,List.flatten_singleton,List.length_singleton]
 lia
theorem ledR_len (b:Bool):(ledR b).length≤1:=by cases b<;>decide
structure PO (l dn:List Int)(R:Int→List Row)(f:Int):Prop where
 mid:dn++l=[1,2,3]
 r0:R 0=blk0
 f0:11≤f
 f1:f+3 * l.length≤20
 todo:∀ i∈l,R i=[]
 done:∀ i∈dn,∃ (b:Bool) (ls:List (List Row)),LinesOk ls∧R i=ledR b++ls.flatten
theorem at1_at1 {α:Type}{x:Int}{u v:α}{f:Int→α}:at1 x v (at1 x u f)=at1 x v f:=funext λj=>by
 by_cases e:j=x
 ·(refine rwI e ?_;refine rwI at1_self ?_;refine rwI at1_self ?_;rfl)
 ·(refine rwI (at1_ne e) ?_;refine rwI (at1_ne e) ?_;refine rwI (at1_ne e) ?_;rfl)
theorem at1_same {α:Type}{x:Int}{v:α}{f:Int→α}(h:f x=v):at1 x v f=f:=funext λj=>by
 by_cases e:j=x
 ·(refine rwI e ?_;refine rwI at1_self ?_;refine rwI h ?_;rfl)
 ·exact at1_ne e
theorem PO.step {i:Int}{l dn:List Int}{R:Int→List Row}{f f2:Int}{b:Bool}{ls:List (List Row)}(h:PO (i::l) dn R f)(L:PL f 0 ls f2):PO l (dn++[i]) (at1 i (ledR b++ls.flatten) R) f2:=by
 have hm:i∈([1,2,3]:List Int):=mid_mem h.mid
 have hd:i ∉ dn:=mid_nodup h.mid (by decide)
 have hl:i ∉ l:=λq=>(List.nodup_cons.mp (List.nodup_append.mp (h.mid ▸ (by decide:([1,2,3]:List Int).Nodup))).2.1).1 q
 have g1:=h.f1
 have g2:=L.f1
 rw[List.length_cons] at g1
 refine⟨mid_next h.mid,(at1_ne λe:(0:Int)=i=>absurd (e ▸ hm) (by decide)).trans h.r0,L.f0,by lia,λj hj=>(at1_ne λe:j=i=>hl (e ▸ hj)).trans (h.todo j (.tail _ hj)),λj hj=>?_⟩
 rcases List.mem_append.mp hj with hj|hj
 ·refine rwI (at1_ne λe:j=i=>hd (e ▸ hj)) ?_;exact h.done j hj
 ·(refine rwI (mem1 hj) ?_;refine rwI at1_self ?_);exact⟨b,ls,⟨L.len,L.ok⟩,rfl⟩
theorem lines_len:∀ {ls:List (List Row)},(∀ l∈ls,∃ f,11≤f∧f < 21∧Line f l)→ls.flatten.length≤2 * ls.length:=@λy_1=>@λy_2=>match @y_1,@y_2 with
 |[],x_1=>Nat.le_refl _
 |x::ls,h=>by
  obtain⟨f,_,_,hx⟩:=h x (.head _)
  have h1:=hx.len
  have h2:=lines_len λl hl=>h l (.tail _ hl)
  (refine rwI List.flatten_cons ?_;refine rwI List.length_append ?_;refine rwI List.length_cons ?_);lia
theorem PO.two {R:Int→List Row}{f:Int}{dn:List Int}(h:PO [] dn R f):(R 2).length≤900:=by
 obtain⟨b,ls,⟨hl1,hl2⟩,hR⟩:=h.done 2 (mid_end h.mid ▸ by decide)
 have h1:=lines_len hl2
 have h2:=ledR_len b
 (refine rwI hR ?_;refine rwI List.length_append ?_);lia
theorem PO.drawn {R:Int→List Row}{f:Int}{dn:List Int}(h:PO [] dn R f):Drawn (at1 2 (R 2++[.bin .shr 0 (.r 0) (.k 1)]) R):=by
 refine⟨(at1_ne (by decide)).trans h.r0,λi a b=>?_⟩
 obtain⟨bb,ls,hl,hR⟩:=h.done i (mid_end h.mid ▸ (by
  have:i=1∨i=2∨i=3:=by lia
  rcases this with rfl|rfl|rfl<;>decide))
 refine⟨bb,ls,hl,?_⟩
 by_cases e:i=2
 ·(refine rwI e ?_;refine rwI at1_self ?_;refine rwI (if_pos rfl) ?_;refine rwS hR ?_;refine rwI e ?_;rfl)
 ·(refine rwI (at1_ne e) ?_;refine rwI (if_neg e) ?_;refine rwI (List.append_nil ..) ?_);exact hR
theorem PW.frz {G:AHeap}{wl pr:Nat}{p:Int→Nat}{P:Int→List Row}(W:PW G wl pr p P){v0 v1 v2:Option AV}{ρ:AEnv}:∃ H',VS (v0::v1::v2::some (.ref pr)::ρ) G (v0::v1::v2::some (partsV P)::ρ) H':=by
 have i01:=W.inj 0 1 (by decide) (by decide) (by decide) (by decide) (by decide)
 have i02:=W.inj 0 2 (by decide) (by decide) (by decide) (by decide) (by decide)
 have i03:=W.inj 0 3 (by decide) (by decide) (by decide) (by decide) (by decide)
 have i12:=W.inj 1 2 (by decide) (by decide) (by decide) (by decide) (by decide)
 have i13:=W.inj 1 3 (by decide) (by decide) (by decide) (by decide) (by decide)
 have i23:=W.inj 2 3 (by decide) (by decide) (by decide) (by decide) (by decide)
 have z0:=W.nr 0 (by decide) (by decide)
 have z1:=W.nr 1 (by decide) (by decide)
 have z2:=W.nr 2 (by decide) (by decide)
 have z3:=W.nr 3 (by decide) (by decide)
 have d:∀ {a b:Nat} {H:AHeap} {o x:AObj},b≠a→b≠pr→H b=some o→del (upd H pr x) a b=some o:=λn m h=>(del_ne n).trans ((upd_ne _ m).trans h)
 have l:∀ {a:Nat} {H:AHeap} {x:AObj},pr≠a→del (upd H pr x) a pr=some x:=λn=>(del_ne n).trans (upd_self ..)
 have e1:=λx=>d (x:=x) i01.symm z1.symm (W.e 1 (by decide) (by decide))
 have e2:=λx y=>d (x:=y) i12.symm z2.symm (d (x:=x) i02.symm z2.symm (W.e 2 (by decide) (by decide)))
 have e3:=λx y z=>d (x:=z) i23.symm z3.symm (d (x:=y) i13.symm z3.symm (d (x:=x) i03.symm z3.symm (W.e 3 (by decide) (by decide))))
 exact⟨_,(VS.frzItem (i:=0) W.l rfl (W.e 0 (by decide) (by decide)) z0).trans ((VS.frzItem (i:=1) (l z0) rfl (e1 _) z1).trans ((VS.frzItem (i:=2) (l z1) rfl (e2 _ _) z2).trans ((VS.frzItem (i:=3) (l z2) rfl (e3 _ _ _) z3).trans (VS.frzVar (n:=3) rfl (l z3)))))⟩
theorem words_ok {w:Int}{ys:List Int}(hw:w=7∨w=3∨w=1)(hl:ys.length=4)(hy:∀ y∈ys,0≤y∧y≤4294967295):WordsOk ([w,8192]++ys):=
 ⟨by (refine rwI List.length_append ?_;refine rwI hl ?_);rfl,λv hv=>(List.mem_append.mp hv).elim (λh=>all2 (P:=λv=>0≤v∧v≤4294967295) h (by lia) (by decide)) (hy v),rfl⟩
theorem program_ok (n:Nat){H:AHeap}{wl:Nat}{o:AObj}{Q:AV→AHeap→Prop}(hw:H wl=some o)(ho:WellO o)
  (h:∀ (P:Int→List Row) (E:Ens) (br:Bool) (ws:List Int) (H':AHeap),Drawn P→EndsOk br E→WordsOk ws→Q (.tup [partsV P,endsV E,.lst (ws.map .int)]) H'):Cn tabP (n+6) 35 [.ref wl] H Q:=by
 refine enter rfl rfl ?_
 refine draw_ok (n+4) hw ho (by decide) λq o1 q0 q1 ho1=>?_
 obtain⟨w0,hw0,hw3⟩:=three (H:=upd H wl o1) (a:=7) (b:=3) (c:=1) q0 q1
 apply ok_mk hw0
 refine compL_mapE (l:=[0,1,2,3]) AV.int (λl G Q'=>∃ o2,And3 (G=upd H wl o2) (WellO o2) (∀ o3 (ys:List Int),WellO o3→ys.length=l.length→(∀ y∈ys,0≤y∧y≤4294967295)→Q' (ys.map .int) (upd H wl o3))) rfl ⟨o1,rfl,ho1,?_⟩ ?_ ?_
 rotate_left
 ·rintro x l G Q' K hk ⟨o2,rfl,ho2,hq⟩
  refine draw_ok (n+4) (upd_self ..) ho2 (by decide) λr o3 r0 r1 ho3=>?_
  obtain⟨v,hv,hv01⟩:=edge_ok (H:=upd (upd H wl o2) wl o3) r0 r1
  apply ok_mk hv
  refine rwI (upd_upd ..) ?_
  exact hk _ _ trivial ⟨o3,rfl,ho3,λo4 ys ho4 hl hy=>hq o4 (v::ys) ho4 (congrArg Nat.succ hl) λy hy'=>(List.mem_cons.mp hy').elim (λe=>e ▸ hv01) (hy y)⟩
 ·rintro G Q' ⟨o2,rfl,ho2,hq⟩
  exact hq o2 [] ho2 rfl λx_ h=>nomatch h
 ·intro o3 ys ho3 hyl hys
  apply ok_mk (show opBin .add (.lst [.int w0,.int 8192]) (.lst (ys.map .int))=some (.lst (([w0,8192]++ys).map .int)) from cat_lst (by (refine rwI (List.length_map ..) ?_;refine rwI hyl ?_);exact (by decide:2+4≤100000)))
  have hws:=words_ok hw3 hyl hys
  generalize[w0,8192]++ys=ws at hws
  clear hw3 hyl hys hw0
  refine draw_ok (n+4) (upd_self ..) ho3 (by decide) λled o4 l0 l1 ho4=>?_
  refine rwI (upd_upd ..) ?_
  refine And.intro trivial (And.intro trivial (And.intro trivial (And.intro trivial ?_)))
  intro p0 h0 p1 h1 p2 h2 p3 h3 pr hpr
  refine wB_gen (λG=>PW G wl pr (pick4 p0 p1 p2 p3) (pick4 [.slot 2 0,.slot 3 1,.slot 4 2,.slot 5 3] [] [] [])) (PW.new (R0:=[.slot 2 0,.slot 3 1,.slot 4 2,.slot 5 3]) ho4 h0 h1 h2 h3 hpr) λG0 W0=>?_
  clear h0 h1 h2 h3 hpr ho4 hw ho ho1 ho3
  generalize pick4 p0 p1 p2 p3=p at W0
  apply ok_mk (W0.ix (H:=G0) (Int.le_refl 0) (by decide:(0:Int) < 4))
  refine W0.push (i:=0) (by decide) (by decide) (.name 6) (by decide) λG1 W1=>?_
  apply ok_mk (W1.ix (H:=G1) (Int.le_refl 0) (by decide:(0:Int) < 4))
  refine W1.push (i:=0) (by decide) (by decide) (.store (.r 4) (.r 6) 4 false) (by decide) λG2 W2=>?_
  refine forL_mapE (l:=[1,2,3]) AV.int (λl ρ G=>Ex5 λdn R f j5 j8=>And3 (ρ=[some (.ref wl),some (.lst (ws.map .int)),some (.int led),some (.ref pr),some (.int f),j5,none,none,j8,none,none]) (PW G wl pr p R) (PO l dn R f)) rfl
   ⟨[],_,11,_,_,rfl,W2,rfl,rfl,by decide,by decide,λi hi=>?_,λi hi=>nomatch hi⟩ ?_ ?_
  rotate_left
  ·clear W0 W1 W2 h hws
   rintro i l ρ G K K1 K2 K3 ⟨dn,R,f,j5,j8,rfl,W,O⟩
   have hi4:1≤i∧i < 4:=by
    have:=mid_mem O.mid
    simp at this;lia
   have i0:0≤i:=Int.le_trans (by decide) hi4.1
   have hf17:f≤17:=by have:=O.f1;rw[List.length_cons] at this;lia
   have key:∀ G1 (b:Bool),PW G1 wl pr p (at1 i (ledR b) R) →
     wB (Cn tabP (n+5)) [.forr (.one 8) .range [.bin .add (.int 1) (.call 30 [.v 0,.int 3])] [.ex (.call 34 [.v 0,.v 4,.idx (.v 3) (.v 5)]),.asg 4 (.bin .add (.v 4) (.int 1))]]
      [some (.ref wl),some (.lst (ws.map .int)),some (.int led),some (.ref pr),some (.int f),some (.int i),none,none,j8,none,none] G1 K:=by
    intro G1 b W1
    refine W1.draw (n+4) (by decide) λt G2 t0 t1 W2=>?_
    apply ok_mk (show srcOf G2 .range [.int (1+t)]=some (rangeL 0 (1+t).toNat,none) from if_pos ⟨by lia,by lia⟩)
    refine forL_mapE (λx:Unit×Nat=>AV.int (0+x.2)) (λl2 ρ G=>Ex3 λls f2 j8=>And3 (ρ=[some (.ref wl),some (.lst (ws.map .int)),some (.int led),some (.ref pr),some (.int f2),some (.int i),none,none,j8,none,none]) (PW G wl pr p (at1 i (ledR b++ls.flatten) R)) (PL f l2.length ls f2)) (rangeL_zip 0 (1+t).toNat)
     ⟨[],f,_,rfl,(List.append_nil (ledR b)).symm ▸ W2,λl hl=>(by exact nomatch hl),?_,O.f0,?_,Nat.le_refl _⟩ ?_ ?_
    rotate_left 2
    ·clear K1 K2 K3 W W1 W2 O
     rintro x l2 ρ G3 K' K1' K2' K3' ⟨ls,f2,j8,rfl,W3,L⟩
     apply ok_mk (W3.ix (H:=G3) i0 hi4.2)
     refine line_ok n (After.start (W3.wr i0 hi4.2)) ?_ λN G4 hN hA=>?_
     ·have h1:=ledR_len b
      have h2:=L.fl
      have h3:=L.len
      (refine rwI (List.length_map ..) ?_;refine rwI at1_self ?_;refine rwI List.length_append ?_);lia
     ·have W4:=W3.after i0 hi4.2 hA
      rw[at1_self,at1_at1,List.append_assoc] at W4
      refine K1' _ _ trivial ⟨ls++[N],f2+1,_,rfl,?_,L.step hf17 hN⟩
      (refine rwI List.flatten_append ?_;refine rwI List.flatten_singleton ?_);exact W4
    ·clear W W1 W2
     rintro ρ G3 ⟨ls,f2,j8,rfl,W3,L⟩
     exact K1 _ _ trivial ⟨dn++[i],_,f2,_,_,rfl,W3,O.step L⟩
    ·(refine rwI List.length_zipIdx ?_;refine rwI List.length_replicate ?_);exact Nat.le_trans (Nat.le_of_eq (Nat.zero_add _)) (by lia)
    ·(refine rwI List.length_zipIdx ?_;refine rwI List.length_replicate ?_);lia
   have hRi:R i=[]:=O.todo i (.head _)
   refine bcase (b:=led==i) (λhe=>?_) λhe=>?_
   ·apply no he
    refine key _ false ?_
    exact (at1_same hRi:at1 i (ledR false) R=R).symm ▸ W
   ·apply yes he
    apply ok_mk (W.ix (H:=G) i0 hi4.2)
    refine W.push i0 hi4.2 (.slot 1 0) (hRi ▸ by decide) λG1 W1=>?_
    rw[hRi] at W1
    exact key _ true W1
  ·clear W0 W1 W2
   rintro ρ G ⟨dn,R,f,j5,j8,rfl,W,O⟩
   apply ok_mk (W.ix (H:=G) (by decide:(0:Int)≤2) (by decide:(2:Int) < 4))
   refine W.push (i:=2) (by decide) (by decide) (.bin .shr 0 (.r 0) (.k 1)) (Nat.le_trans O.two (by decide)) λG3 W3=>?_
   have hdr:=O.drawn
   generalize at1 2 (R 2++[.bin .shr 0 (.r 0) (.k 1)]) R=P at W3 hdr
   refine W3.draw (n+4) (by decide) λt G4 t0 t1 W4=>?_
   clear W W3 O
   have fin:∀ G5 (mid:End) (br:Bool),((br=false∧mid=.jump 2)∨(br=true∧∃ r,7≤r∧r < 11∧mid=.branch r 2 3))→PW G5 wl pr p P →
     wB (Cn tabP (n+5)) [.asg 7 (.tup [.str "give",.lst true [.tup [.str "r",.bin .add (.int 7) (.call 30 [.v 0,.int 4])]],.int 0]),.ghost,.ret (.tup [.v 3,.lst true [.tup [.str "jump",.lst true [],.int 1],.v 6,.tup [.str "branch",.lst true [.tup [.str "r",.int 0]],.tup [.int 1,.int 3]],.v 7],.v 1])]
      [some (.ref wl),some (.lst (ws.map .int)),some (.int led),some (.ref pr),some (.int f),j5,some (endR mid),none,j8,none,none] G5 λf x_ H'=>Q (retOf f) H':=by
    intro G5 mid br hmid W5
    refine W5.draw (n+4) (by decide) λt G6 t0 t1 W6=>?_
    obtain⟨H',vs⟩:=W6.frz
    exact ghost_i vs (h P (pick4 (.jump 1) mid (.branch 0 1 3) (.give (7+t))) br ws H' hdr ⟨rfl,hmid,rfl,⟨7+t,by lia,by lia,rfl⟩⟩ hws)
   have t2:t=0∨t=1:=by lia
   rcases t2 with rfl|rfl
   ·exact fin _ (.jump 2) false (.inl ⟨rfl,rfl⟩) W4
   ·exact W4.draw (n+4) (by decide) λt2 G5 s0 s1 W5=>fin _ (.branch (7+t2) 2 3) true (.inr ⟨rfl,_,by lia,by lia,rfl⟩) W5
  ·have:i=1∨i=2∨i=3:=by simpa using hi
   rcases this with rfl|rfl|rfl<;>rfl
section
variable {H:AHeap}
theorem init_Block_ok (n:Nat){a d:Nat}{v:AV}{Q:AV→AHeap→Prop}(ha:H a=some (.inst 1 d))(hd:H d=some (.ns 1 []))(h:∀ st,H st=none→Q .none (upd (upd H st (.list [])) d (.ns 1 [v,.ref st,.none]))) :
  Cn tabP (n+1) 47 [.ref a,v] H Q:=by
 refine enter rfl rfl ?_
 have had:a≠d:=ne_of_objs ha hd (by simp)
 refine opSetA_ok ha hd (Nat.zero_le _) ?_
 intro st hst
 have nsd:st≠d:=λe=>by rw[e,upd_self] at hst;exact nomatch hst
 have hst0:H st=none:=by rw[upd_ne _ nsd] at hst;exact hst
 have nsa:a≠st:=λe=>by rw[← e,ha] at hst0;exact nomatch hst0
 refine opSetA_ok (d:=d) (fs:=[v]) (by (refine rwI (upd_ne _ nsa) ?_;refine rwI (upd_ne _ had) ?_);exact ha) (by (refine rwI (upd_ne _ (Ne.symm nsd)) ?_;refine rwI (upd_self ..) ?_);rfl) (Nat.le_refl _) ?_
 refine opSetA_ok (d:=d) (fs:=[v,.ref st]) (by (refine rwI (upd_ne _ had) ?_;refine rwI (upd_ne _ nsa) ?_;refine rwI (upd_ne _ had) ?_);exact ha) (by refine rwI (upd_self ..) ?_;rfl) (Nat.le_refl _) ?_
 refine rwI (upd_upd ..) ?_
 have:upd (upd (upd H d (.ns 1 (putF [] 0 v))) st (.list [])) d (.ns 1 (putF [v,.ref st] 2 .none))=upd (upd H st (.list [])) d (.ns 1 [v,.ref st,.none]):=by
  (refine rwI (upd_comm (a:=d) (b:=st) _ _ (Ne.symm nsd)) ?_;refine rwI (upd_upd ..) ?_);rfl
 refine rwI this ?_
 exact h st hst0
theorem init_Func_ok (n:Nat){a d:Nat}{v:AV}{Q:AV→AHeap→Prop}(ha:H a=some (.inst 2 d))(hd:H d=some (.ns 2 []))(h:∀ bl,H bl=none→Q .none (upd (upd H bl (.list [])) d (.ns 2 [v,.lst [],.bool false,.lst [],.ref bl,.int 0,.bool false]))) :
  Cn tabP (n+1) 48 [.ref a,v] H Q:=by
 refine enter rfl rfl ?_
 have had:a≠d:=ne_of_objs ha hd (by simp)
 have ha':∀ o,upd H d o a=some (.inst 2 d):=λo=>by refine rwI (upd_ne _ had) ?_;exact ha
 refine opSetA_ok ha hd (Nat.zero_le _) ?_
 refine opSetA_ok (d:=d) (fs:=[v]) (ha' _) (by refine rwI (upd_self ..) ?_;rfl) (Nat.le_refl _) ?_
 refine rwI (upd_upd ..) ?_
 refine opSetA_ok (d:=d) (fs:=[v,.lst []]) (ha' _) (by refine rwI (upd_self ..) ?_;rfl) (Nat.le_refl _) ?_
 refine rwI (upd_upd ..) ?_
 refine opSetA_ok (d:=d) (fs:=[v,.lst [],.bool false]) (ha' _) (by refine rwI (upd_self ..) ?_;rfl) (Nat.le_refl _) ?_
 refine rwI (upd_upd ..) ?_
 intro bl hbl
 have nbd:bl≠d:=λe=>by rw[e,upd_self] at hbl;cases hbl
 have hbl0:H bl=none:=by rw[upd_ne _ nbd] at hbl;exact hbl
 have nba:a≠bl:=λe=>by rw[← e,ha] at hbl0;exact nomatch hbl0
 have ha2:∀ o o',upd (upd H d o) bl o' a=some (.inst 2 d):=λo o'=>by refine rwI (upd_ne _ nba) ?_;exact ha' _
 refine opSetA_ok (d:=d) (fs:=[v,.lst [],.bool false,.lst []]) (ha2 _ _) (by (refine rwI (upd_ne _ (Ne.symm nbd)) ?_;refine rwI (upd_self ..) ?_);rfl) (Nat.le_refl _) ?_
 have sw:∀ x y z,upd (upd (upd H d x) bl y) d z=upd (upd H bl y) d z:=λx y z=>by (refine rwI (upd_comm (a:=d) (b:=bl) _ _ (Ne.symm nbd)) ?_;refine rwI (upd_upd ..) ?_;rfl)
 refine rwI (sw ..) ?_
 have ha3:∀ o o',upd (upd H bl o') d o a=some (.inst 2 d):=λo o'=>by (refine rwI (upd_ne _ had) ?_;refine rwI (upd_ne _ nba) ?_);exact ha
 refine opSetA_ok (d:=d) (fs:=[v,.lst [],.bool false,.lst [],.ref bl]) (ha3 _ _) (by refine rwI (upd_self ..) ?_;rfl) (Nat.le_refl _) ?_
 refine rwI (upd_upd ..) ?_
 refine opSetA_ok (d:=d) (fs:=[v,.lst [],.bool false,.lst [],.ref bl,.int 0]) (ha3 _ _) (by refine rwI (upd_self ..) ?_;rfl) (Nat.le_refl _) ?_
 refine rwI (upd_upd ..) ?_
 exact h bl hbl0
end
theorem ends_ix {H:AHeap}{E:Ens}{i:Int}(i0:0≤i)(i1:i < 4):getIx H (endsV E) (.int i)=some (endR (E i)):=by
 rcases i4 i0 i1 with rfl|rfl|rfl|rfl<;>rfl
structure BS (H':AHeap)(fa fd bl:Nat)(ly:Lay)(P':Prg)(E:Ens)(dn:List Int):Prop where
 gf:H' fa=some (.inst 2 fd)
 gd:H' fd=some (.ns 2 [.str "drawn",paramsV,.bool false,slotsV,.ref bl,.int 21,.bool true])
 gl:H' bl=some (.list (dn.map λi=>.ref (ly.b i)))
 gb:∀ i∈dn,H' (ly.b i)=some (.inst 1 (ly.d i))∧H' (ly.d i)=some (.ns 1 [.int i,.lst (stepsV (P' i)),endV (ly.e i) (E i)])
theorem BS.ext {H' H2:AHeap}{fa fd bl:Nat}{ly:Lay}{P':Prg}{E:Ens}{dn:List Int}(b:BS H' fa fd bl ly P' E dn)(e:Ext H' H2):BS H2 fa fd bl ly P' E dn:=
 ⟨e _ _ b.gf,e _ _ b.gd,e _ _ b.gl,λi hi=>⟨e _ _ (b.gb i hi).1,e _ _ (b.gb i hi).2⟩⟩
structure BW (G G2:AHeap)(i:Int)(b d st:Nat)(acc:List (Nat×Row)):Prop where
 ex:Ext G G2
 gb:G2 b=some (.inst 1 d)
 gs:G2 st=some (.list (stepsV acc))
 gd:G2 d=some (.ns 1 [.int i,.ref st,.none])
 hb:G b=none
 hd:G d=none
 hs:G st=none
 nsb:st≠b
 nsd:st≠d
 nbd:b≠d
section
variable {G G2 H':AHeap}{i:Int}{b d st a da fa fd bl:Nat}{acc:List (Nat×Row)}{ly:Lay}{P':Prg}{E:Ens}{dn:List Int}
theorem BW.new (hb:G b=none)(hd:G d=none)(n:b≠d)(hs:upd (upd G d (.ns 1 [])) b (.inst 1 d) st=none):BW G (upd (upd (upd (upd G d (.ns 1 [])) b (.inst 1 d)) st (.list [])) d (.ns 1 [.int i,.ref st,.none])) i b d st []:=
 have a1:=new_ne hs
 have a2:=new_ne a1.2
 ⟨((((Ext.refl G).set hd).set hb).set a2.2).set hd,(upd_ne _ n).trans ((upd_ne _ a1.1.symm).trans (upd_self ..)),(upd_ne _ a2.1).trans (upd_self ..),upd_self ..,hb,hd,a2.2,a1.1,a2.1,n⟩
theorem BW.app (B:BW G G2 i b d st acc)(r:Row):BW G (upd G2 st (.list (stepsV acc++[stepV a r]))) i b d st (acc++[(a,r)]):=
 ⟨B.ex.set B.hs,(upd_ne _ B.nsb.symm).trans B.gb,(upd_self ..).trans (by (rewrite [stepsV,stepsV];refine rwI List.map_append ?_);rfl),(upd_ne _ B.nsd.symm).trans B.gd,B.hb,B.hd,B.hs,B.nsb,B.nsd,B.nbd⟩
theorem BW.frz (B:BW G G2 i b d st acc)(ha:G2 a=none)(hda:G2 da=none)(nad:a≠da)(x:End)(ρ:AEnv) :
  ∃ G3,VS ρ (upd (upd (upd G2 da (.ns 0 [.str x.op,.int (-1),argsV x.args,x.more,.bool false,.int 0])) a (.inst 0 da)) d (.ns 1 [.int i,.ref st,.ref a])) ρ G3∧Ext G G3∧G3 b=some (.inst 1 d)∧G3 d=some (.ns 1 [.int i,.lst (stepsV acc),endV a x]):=by
 have na:∀ {y o},G2 y=some o→y≠a:=λh e=>none_some (ha.symm.trans (e ▸ h))
 have nd:∀ {y o},G2 y=some o→y≠da:=λh e=>none_some (hda.symm.trans (e ▸ h))
 refine⟨_,(VS.frzFldObj (d:=d) (c:=1) (fs:=[.int i,.ref st,.ref a]) (k:=2) (a:=a) (c':=0) (d':=da) (fs':=[.str x.op,.int (-1),argsV x.args,x.more,.bool false,.int 0]) (upd_self ..) rfl
   ((upd_ne _ (na B.gd).symm).trans (upd_self ..)) ((upd_ne _ (nd B.gd).symm).trans ((upd_ne _ nad.symm).trans (upd_self ..))) (na B.gd).symm (nd B.gd).symm).trans
  (VS.frzFld (d:=d) (c:=1) (fs:=[.int i,.ref st,endV a x]) (k:=1) (a:=st) (xs:=stepsV acc) ((del_ne (nd B.gd)).trans ((del_ne (na B.gd)).trans (upd_self ..))) rfl
   ((del_ne (nd B.gs)).trans ((del_ne (na B.gs)).trans ((upd_ne _ B.nsd).trans ((upd_ne _ B.nsd).trans ((upd_ne _ (na B.gs)).trans ((upd_ne _ (nd B.gs)).trans B.gs)))))) B.nsd),λy o hy=>?_,?_,(del_ne B.nsd.symm).trans (upd_self ..)⟩
 ·have ny:∀ {z},G z=none→y≠z:=λhz e=>none_some (hz.symm.trans (e ▸ hy))
  have y2:=B.ex _ _ hy
  exact (del_ne (ny B.hs)).trans ((upd_ne _ (ny B.hd)).trans ((del_ne (nd y2)).trans ((del_ne (na y2)).trans ((upd_ne _ (ny B.hd)).trans ((upd_ne _ (ny B.hd)).trans ((upd_ne _ (na y2)).trans ((upd_ne _ (nd y2)).trans y2)))))))
 ·exact (del_ne B.nsb.symm).trans ((upd_ne _ B.nbd).trans ((del_ne (nd B.gb)).trans ((del_ne (na B.gb)).trans ((upd_ne _ B.nbd).trans ((upd_ne _ B.nbd).trans ((upd_ne _ (na B.gb)).trans ((upd_ne _ (nd B.gb)).trans B.gb)))))))
theorem BS.add (B:BS G fa fd bl ly P' E dn)(hb:G b=some (.inst 1 d))(hd:G d=some (.ns 1 [.int i,.lst (stepsV acc),endV a (E i)]))(hi:i ∉ dn)(hl:dn.length≤1000){Q:AV→AHeap→Prop}
  (k:∀ G,BS G fa fd bl ⟨ly.f,at1 i b ly.b,at1 i d ly.d,at1 i a ly.e⟩ (at1 i acc P') E (dn++[i])→Q .none G):isLi G (.ref bl)∧opAppend G (.ref bl) (.ref b) Q:=by
 have kp:∀ {y o},G y=some o→(∀ xs,o≠.list xs)→upd G bl (.list (dn.map (λi=>AV.ref (ly.b i))++[.ref b])) y=some o:=λhy ho=>(upd_ne _ (ne_of_objs hy B.gl (ho _))).trans hy
 refine app_i B.gl (by refine rwI (List.length_map ..) ?_;lia) (k _ ⟨kp B.gf (λx_=>nofun),kp B.gd (λx_=>nofun),?_,λj hj=>?_⟩)
 ·(refine rwI (upd_self ..) ?_;refine rwI List.map_append ?_;refine rwI List.map_cons ?_;refine rwI List.map_nil ?_)
  refine (?_:_=some (AObj.list (dn.map (λj=>AV.ref (at1 i b ly.b j))++[.ref (at1 i b ly.b i)])))
  refine rwI at1_self ?_
  exact congrArg (λl=>some (AObj.list (l++_))) (List.map_congr_left λj hj=>congrArg AV.ref (at1_ne λe:j=i=>hi (e ▸ hj)).symm)
 ·refine (?_:upd G bl _ (at1 i b ly.b j)=some (.inst 1 (at1 i d ly.d j))∧upd G bl _ (at1 i d ly.d j)=some (.ns 1 [.int j,.lst (stepsV (at1 i acc P' j)),endV (at1 i a ly.e j) (E j)]))
  rcases List.mem_append.mp hj with hj|hj
  ·have n:j≠i:=λe=>hi (e ▸ hj)
   (refine rwI (at1_ne n) ?_;refine rwI (at1_ne n) ?_;refine rwI (at1_ne n) ?_;refine rwI (at1_ne n) ?_)
   exact⟨kp (B.gb j hj).1 (λx_=>nofun),kp (B.gb j hj).2 (λx_=>nofun)⟩
  ·(refine rwI (mem1 hj) ?_;refine rwI at1_self ?_;refine rwI at1_self ?_;refine rwI at1_self ?_;refine rwI at1_self ?_)
   exact⟨kp hb (λx_=>nofun),kp hd (λx_=>nofun)⟩
theorem BS.frz (B:BS G fa fd bl ly P' E [0,1,2,3])(hf:ly.f=fa){v0 v1:Option AV}{ρ:AEnv}:∃ G3,VS (v0::v1::some (.ref fa)::ρ) G (v0::v1::some (bodyV ly)::ρ) G3∧BodyAt G3 ly P' E:=by
 have nld:bl≠fd:=ne_of_objs B.gl B.gd nofun
 have nfb:fa≠bl:=ne_of_objs B.gf B.gl nofun
 have nfd:fa≠fd:=ne_of_objs B.gf B.gd nofun
 subst hf
 refine⟨_,(VS.frzFld (k:=4) B.gd rfl B.gl nld).trans (VS.frzObj (n:=2) (a:=ly.f) (c:=2) (d:=fd) (fs:=[.str "drawn",paramsV,.bool false,slotsV,.lst (([0,1,2,3]:List Int).map λi=>.ref (ly.b i)),.int 21,.bool true]) rfl
   ((del_ne nfb).trans ((upd_ne _ nfd).trans B.gf)) ((del_ne nld.symm).trans (upd_self ..))),λi a b=>?_⟩
 have q:=B.gb i (all4 (P:=λi=>i∈([0,1,2,3]:List Int)) (by decide) (by decide) (by decide) (by decide) i a b)
 have k:∀ {z o},G z=some o→(∀ xs,o≠.list xs)→(∀ d,o≠.inst 2 d)→(∀ fs,o≠.ns 2 fs)→∀ o5,del (del (del (upd G fd o5) bl) ly.f) fd z=some o:=λhz h1 h2 h3 o5=>
  have q1:=ne_of_objs hz B.gd (h3 _)
  (del_ne q1).trans ((del_ne (ne_of_objs hz B.gf (h2 _))).trans ((del_ne (ne_of_objs hz B.gl (h1 _))).trans ((upd_ne _ q1).trans hz)))
 exact⟨k q.1 (λx_=>nofun) (λx_=>nofun) (λx_=>nofun) _,k q.2 (λx_=>nofun) (λx_=>nofun) (λx_=>nofun) _⟩
end
theorem body_ok (n:Nat){H:AHeap}{P:Int→List Row}{E:Ens}{Q:AV→AHeap→Prop}(hl:∀ i,0≤i→i < 4→(P i).length≤1000)
  (h:∀ (ly:Lay) (P':Prg) (H':AHeap),BodyAt H' ly P' E→(∀ i,0≤i→i < 4→rowsOf P' i=P i)→Q (bodyV ly) H'):Cn tabP (n+2) 36 [partsV P,endsV E] H Q:=by
 refine enter rfl rfl ?_
 refine And.intro (by decide) λfa fd hfa hfd nfd x_=>?_
 refine init_Func_ok n (upd_self ..) (d:=fd) (by refine rwI (upd_ne _ (Ne.symm nfd)) ?_;exact upd_self ..) λbl hbl=>⟨rfl,?_⟩
 have nbf:=new_ne hbl
 have nbd:=new_ne nbf.2
 have gf0:∀ o,upd (upd (upd (upd H fd (.ns 2 [])) fa (.inst 2 fd)) bl (.list [])) fd o fa=some (.inst 2 fd):=λo=>(upd_ne _ nfd).trans ((upd_ne _ nbf.1.symm).trans (upd_self ..))
 refine opSetA_ok (d:=fd) (gf0 _) (upd_self ..) (by exact Nat.succ_pos _) ?_
 refine rwI (upd_upd ..) ?_
 refine opSetA_ok (d:=fd) (gf0 _) (upd_self ..) (Nat.le_of_ble_eq_true rfl) ?_
 refine rwI (upd_upd ..) ?_
 refine opSetA_ok (d:=fd) (gf0 _) (upd_self ..) (Nat.le_of_ble_eq_true rfl) ?_
 refine rwI (upd_upd ..) ?_
 refine opSetA_ok (d:=fd) (gf0 _) (upd_self ..) (Nat.le_of_ble_eq_true rfl) ?_
 refine rwI (upd_upd ..) ?_
 refine wB_gen (λG=>BS G fa fd bl ⟨fa,λx_=>0,λx_=>0,λx_=>0⟩ (λx_=>[]) E [])
  ⟨gf0 _,upd_self ..,(upd_ne _ nbd.1).trans (upd_self ..),λi hi=>nomatch hi⟩ λG0 B0=>?_
 clear gf0 nbf nbd hbl hfa hfd nfd
 refine forL_mapE (l:=[0,1,2,3]) (λi:Int=>AV.tup [.int i,rowsV (P i)]) (λl ρ G=>Ex12 λdn ly P' j3 j4 j5 j6 j7 j8 j9 j10 j11=>And5 (dn++l=[0,1,2,3]) (ρ=[some (partsV P),some (endsV E),some (.ref fa),j3,j4,j5,j6,j7,j8,j9,j10,j11]) (BS G fa fd bl ly P' E dn) (ly.f=fa) ((∀ i∈dn,rowsOf P' i=P i))) rfl
   ⟨[],_,_,_,_,_,_,_,_,_,_,_,rfl,rfl,B0,rfl,λi hi=>nomatch hi⟩ ?_ ?_
 ·clear h B0
  rintro i l ρ G K K1 K2 K3 ⟨dn,ly,P',j3,j4,j5,j6,j7,j8,j9,j10,j11,hdn,rfl,B,hlf,hP'⟩
  have hi4:0≤i∧i < 4:=(by decide:∀ i∈([0,1,2,3]:List Int),0≤i∧i < 4) i (mid_mem hdn)
  refine And.intro (by decide) λb d hb hd nbd x_=>?_
  refine init_Block_ok n (upd_self ..) (d:=d) (by refine rwI (upd_ne _ (Ne.symm nbd)) ?_;exact upd_self ..) λst hst=>⟨rfl,?_⟩
  have W0:=BW.new (i:=i) hb hd nbd hst
  generalize upd (upd (upd (upd G d (.ns 1 [])) b (.inst 1 d)) st (.list [])) d (.ns 1 [.int i,.ref st,.none])=G1 at W0
  refine forL_map rowV (λl2 ρ G2=>Ex7 λacc j6 j7 j8 j9 j10 j11=>And3 (ρ=[some (partsV P),some (endsV E),some (.ref fa),some (.int i),some (rowsV (P i)),some (.ref b),j6,j7,j8,j9,j10,j11]) (BW G G2 i b d st acc) (acc.map (·.2)++l2=P i)) ?_ ?_ (P i) _ _ ⟨[],_,_,_,_,_,_,rfl,W0,rfl⟩
  ·clear K1 K2 K3 W0 hP' B hlf hdn hst hb hd
   rintro r l2 ρ G2 K' K1' K2' K3' ⟨acc,j6,j7,j8,j9,j10,j11,rfl,W,hacc⟩
   have hal:acc.length≤1000:=by
    have h1:=mid_len hacc
    rw[List.length_map] at h1
    exact Nat.le_trans (Nat.le_of_lt h1) (hl i hi4.1 hi4.2)
   refine And.intro (by decide) λa da ha hda nad x_=>?_
   refine init_Step_ok n (upd_self ..) (d:=da) (by refine rwI (upd_ne _ (Ne.symm nad)) ?_;exact upd_self ..) ⟨rfl,?_⟩
   (refine rwI (upd_comm _ _ nad) ?_;refine rwI (upd_upd ..) ?_)
   refine opSetA_ok (upd_self ..) (d:=da) (by refine rwI (upd_ne _ (Ne.symm nad)) ?_;exact upd_self ..) (Nat.le_of_ble_eq_true rfl) ?_
   (refine rwI (upd_comm _ _ nad) ?_;refine rwI (upd_upd ..) ?_)
   apply ghost_i
   ·exact .frzObj (n:=11) rfl (upd_self ..) (d:=da) (fs:=[.str r.op,.int r.dst,argsV r.args,r.more,.bool r.firm,.int 0]) (by refine rwI (upd_ne _ (Ne.symm nad)) ?_;exact upd_self ..)
   (refine rwI (del_upd_none ((upd_ne _ nad).trans ha)) ?_;refine rwI (del_upd_none hda) ?_)
   apply ok_mk (blk_attr 1 W.gb W.gd:attrOf G2 1 1 (.ref b)=some (.ref st))
   refine app_i W.gs (by refine rwI (stepsV_len ..) ?_;lia) ?_
   exact K1' _ _ trivial ⟨acc++[(a,r)],_,_,_,_,_,_,rfl,W.app r,by refine rwI List.map_append ?_;exact mid_next hacc⟩
  ·clear W0 hst hb hd
   rintro ρ G2 ⟨acc,j6,j7,j8,j9,j10,j11,rfl,W,hacc⟩
   apply ok_mk (ends_ix hi4.1 hi4.2)
   refine And.intro (by decide) λa da ha hda nad x_=>?_
   refine init_Step_ok n (upd_self ..) (d:=da) (by refine rwI (upd_ne _ (Ne.symm nad)) ?_;exact upd_self ..) ⟨rfl,?_⟩
   (refine rwI (upd_comm _ _ nad) ?_;refine rwI (upd_upd ..) ?_)
   have na:∀ {y o},G2 y=some o→y≠a:=λh e=>none_some (ha.symm.trans (e ▸ h))
   have nd:∀ {y o},G2 y=some o→y≠da:=λh e=>none_some (hda.symm.trans (e ▸ h))
   refine opSetA_ok (d:=d) ((upd_ne _ (na W.gb)).trans ((upd_ne _ (nd W.gb)).trans W.gb)) ((upd_ne _ (na W.gd)).trans ((upd_ne _ (nd W.gd)).trans W.gd)) (Nat.le_of_ble_eq_true rfl) ?_
   obtain⟨G3,vs,e3,g1,g2⟩:=W.frz ha hda nad (E i) [some (partsV P),some (endsV E),some (.ref fa),some (.int i),some (rowsV (P i)),some (.ref b),some (.str (E i).op),j7,some (argsV (E i).args),some (E i).more,j10,j11]
   refine ghost_i vs ?_
   have B2:=B.ext e3
   apply ok_mk (ref_attr 4 B2.gf B2.gd:attrOf G3 2 4 (.ref fa)=some (.ref bl))
   refine B2.add g1 g2 (mid_nodup hdn (by decide)) (Nat.le_trans (Nat.le_of_lt (mid_len hdn)) (by decide)) λG4 B4=>?_
   refine K1 _ _ trivial ⟨dn++[i],_,_,_,_,_,_,_,_,_,_,_,mid_next hdn,rfl,B4,hlf,λj hj=>?_⟩
   rcases List.mem_append.mp hj with hj|hj
   ·exact (congrArg (λl:List (Nat×Row)=>l.map (·.2)) (at1_ne λe:j=i=>mid_nodup hdn (by decide) (e ▸ hj))).trans (hP' j hj)
   ·refine rwI (mem1 hj) ?_;exact (congrArg (λl:List (Nat×Row)=>l.map (·.2)) at1_self).trans (mid_end hacc)
 ·clear B0
  rintro ρ G ⟨dn,ly,P',j3,j4,j5,j6,j7,j8,j9,j10,j11,hdn,rfl,B,hlf,hP'⟩
  rw[mid_end hdn] at B hP'
  obtain⟨G3,vs,hB⟩:=B.frz hlf
  exact ghost_i vs (h ly P' G3 hB (all4 (P:=λi=>rowsOf P' i=P i) (hP' 0 (by decide)) (hP' 1 (by decide)) (hP' 2 (by decide)) (hP' 3 (by decide))))
structure Mc where
 κ:Int→Option Int
 μ:Int→Int
 tr:List AV
noncomputable def getN (μ:Int→Int) (a:Int):Nat→Int:=@λy_1=>match @y_1 with
 |0=>0
 |n+1=>getN μ a n+μ (a+n) * 256 ^ n
noncomputable def layN (μ:Int→Int) (a v:Int):Nat→Int→Int:=@λy_1=>match @y_1 with
 |0=>μ
 |n+1=>λx=>if x=a+n then (v.fdiv (256 ^ n)).fmod 256 else layN μ a v n x
theorem layN_c {μ:Int→Int}{a v x:Int}{n:Nat}:layN μ a v (n+1) x=if x=a+n then (v.fdiv (256 ^ n)).fmod 256 else layN μ a v n x:=rfl
noncomputable def own (a:Opd) (w:Int):Bool:=match a with
 |.r h=>decide (2≤h)&&(decide (h < 6)&&decide (w≤sizeS (h - 2)))
 |.k _=>false
noncomputable def setK (κ:Int→Option Int) (d v:Int):Int→Option Int:=match decide (d ≥ 0) with
 |true=>λx=>if x=d then some (v.fmod 4294967296) else κ x
 |false=>κ
noncomputable def baseS (s:Int):Int:=if s=0 then 4096 else if s=1 then 4104 else if s=2 then 4108 else 4112
noncomputable def evL (g w v:Int) (f:Bool):AV:=.tup [.str "load",.int g,.int w,.int v,.bool f]
noncomputable def evS (g w v:Int) (f:Bool):AV:=.tup [.str "store",.int g,.int w,.int v,.bool f]
noncomputable def evM (g h:Int) (f:Bool):AV:=.tup [.str "move",.int g,.int h,.bool f]
noncomputable def evC (p:Bool) (g v:Int):AV:=.tup [.str (match p with|true=>"poke" | false=>"see"),.int g,.int v]
noncomputable def evD (g h:Int):AV:=.tup [.str "divu",.int g,.int h]
noncomputable def pushIf (c:Bool) (tr:List AV) (e:AV):List AV:=match c with|true=>tr++[e]|false=>tr
noncomputable def isR:Opd→Bool:=@λy_1=>match @y_1 with
 |.r x_1=>true
 |.k x_1=>false
noncomputable def sxV (sx:Bool) (v w:Int):Int:=match sx with
 |true=>(match decide (v * 2 ≥ 256 ^ w.toNat) with|true=>v - 256 ^ w.toNat|false=>v)
 |false=>v
noncomputable def binV:Bop→Int→Int→Int:=@λy_1=>@λy_2=>@λy_3=>match @y_1,@y_2,@y_3 with
 |.add,a,b=>a+b
 |.xor,a,b=>Builtin.bitXor a b
 |.mul,a,b=>a * b
 |.ltu,a,b=>if a < b then 1 else 0
 |.shr,a,b=>a.fdiv (2 ^ b.toNat)
 |.divu,a,b=>a.fdiv b
noncomputable def on1 (m:Mc) (g:List Int) (k:Int→Bool×Mc):Bool×Mc:=match g with
 |[x]=>k x
 |_=>(true,m)
noncomputable def on2 (m:Mc) (g:List Int) (k:Int→Int→Bool×Mc):Bool×Mc:=match g with
 |[x,y]=>k x y
 |_=>(true,m)
noncomputable def doCall (m:Mc) (d:Int) (p:Bool) (g0:Int):Bool×Mc:=match p with
 |true=>(true,⟨setK m.κ d (getN m.μ g0 4),layN m.μ g0 (getN m.μ g0 4 * 5+1) 4,m.tr++[evC true g0 (getN m.μ g0 4)]⟩)
 |false=>(true,⟨setK m.κ d (g0+3),m.μ,m.tr++[evC false g0 (g0+3)]⟩)
noncomputable def doDiv (m:Mc) (d:Int) (b:Opd) (g0 g1:Int):Bool×Mc:=match g1==0 with
 |true=>(false,⟨m.κ,m.μ,m.tr++[evD g0 g1]⟩)
 |false=>(true,⟨setK m.κ d (g0.fdiv g1),m.μ,pushIf (isR b) m.tr (evD g0 g1)⟩)
noncomputable def isDivu:Bop→Bool:=@λy_1=>match @y_1 with
 |.divu=>true
 |x_1=>false
noncomputable def doBin (m:Mc) (o:Bop) (d:Int) (b:Opd) (g0 g1:Int):Bool×Mc:=match isDivu o with
 |true=>doDiv m d b g0 g1
 |false=>(true,⟨setK m.κ d (binV o g0 g1),m.μ,m.tr⟩)
noncomputable def doRow (m:Mc) (r:Row) (g:List Int):Bool×Mc:=match r with
 |.slot d s=>(true,⟨setK m.κ d (baseS s),m.μ,m.tr⟩)
 |.name d=>(true,⟨setK m.κ d 8192,m.μ,m.tr⟩)
 |.load d a w sx f=>on1 m g λg0=>(true,⟨setK m.κ d (sxV sx (getN m.μ g0 w.toNat) w),m.μ,pushIf (f || !own a w) m.tr (evL g0 w (getN m.μ g0 w.toNat) f)⟩)
 |.store a _ w f=>on2 m g λg0 g1=>(true,⟨m.κ,layN m.μ g0 g1 w.toNat,pushIf (f || !own a w) m.tr (evS g0 w g1 f)⟩)
 |.move _ _ f=>on2 m g λg0 g1=>(true,⟨m.κ,layN m.μ g0 (getN m.μ g1 4) 4,m.tr++[evM g0 g1 f]⟩)
 |.call d _ p=>on1 m g λg0=>doCall m d p g0
 |.copy d _=>on1 m g λg0=>(true,⟨setK m.κ d g0,m.μ,m.tr⟩)
 |.bin o d _ b=>on2 m g λg0 g1=>doBin m o d b g0 g1
noncomputable def MemL (H:AHeap) (md:Nat) (μ:Int→Int) (b:Nat):Prop:=∃ es,H md=some (.dict es)∧es.length≤b∧∀ a,(es.lookup a).getD (.int 0)=.int (μ a)
theorem rangeL_map:∀ (s k:Nat),rangeL (s:Int) k=(List.range' s k).map λp=>.int ((p:Nat):Int):=@λy_1=>@λy_2=>match @y_1,@y_2 with
 |s,0=>rfl
 |s,k+1=>by
  have:=rangeL_map (s+1) k
  exact congrArg (AV.int (s:Int) :: ·) this
theorem src_range {H:AHeap}{w:Int}(h0:0≤w)(h1:w≤100):srcOf H .range [.int w]=some ((List.range' 0 w.toNat).map λp=>.int ((p:Nat):Int),none):=by
 show (if _ then _ else _)=_
 refine rwI (if_pos (by constructor<;>lia)) ?_
 have:=rangeL_map 0 w.toNat
 refine rwS this ?_;rfl
theorem pow_ok {p:Nat}(hp:p < 8):opBin .pow (.int 256) (.int (p:Int))=some (.int (256 ^ p))∧smallInt (256 ^ p)=true∧((256:Int) ^ p != 0)=true:=by
 have:=(by decide:∀ p:Nat,p < 8→p=0∨p=1∨p=2∨p=3∨p=4∨p=5∨p=6∨p=7) p hp
 rcases this with rfl|rfl|rfl|rfl|rfl|rfl|rfl|rfl<;>exact⟨rfl,by decide,by decide⟩
theorem div_small (a:Int){b:Int}(h:(b != 0)=true)(hb:smallInt b=true):opBin .div (.int a) (.int b)=some (.int (a.fdiv b)):=by
 refine (?_:(if (b != 0&&smallInt b)=true then _ else _)=_)
 (refine rwI h ?_;refine rwI hb ?_);rfl
section
variable {H:AHeap}{md:Nat}{μ:Int→Int}{b:Nat}
theorem x_lt8 {w:Int}{x n:Nat}(h:w≤8)(e:x+(n+1)=w.toNat):x < 8:=Nat.lt_of_lt_of_le (Nat.lt_of_lt_of_eq (Nat.lt_add_of_pos_right (Nat.succ_pos n)) e) (Int.toNat_le.mpr h)
theorem getM_ok (n:Nat){a w:Int}{Q:AV→AHeap→Prop}(hm:MemL H md μ b)(h0:0≤w)(h8:w≤8)(h:Q (.int (getN μ a w.toNat)) H):Cn tabP (n+1) 38 [.ref md,.int a,.int w] H Q:=by
 obtain⟨es,hes,_,hlk⟩:=hm
 refine enter rfl rfl ?_
 apply ok_mk (src_range h0 (Int.le_trans h8 (by decide)))
 refine forL_map (λp:Nat=>AV.int (p:Int)) (λl ρ H'=>H'=H∧Ex2 λp j4=>And3 (l=List.range' p l.length) (p+l.length=w.toNat) (ρ=[some (.ref md),some (.int a),some (.int w),some (.int (getN μ a p)),j4])) ?_ ?_ _ _ _ ⟨rfl,0,_,by simp,by simp,rfl⟩
 ·rintro x l ρ H' K K1 K2 K3 ⟨rfl,p,j4,hl,hp,rfl⟩
  simp only[List.length_cons,List.range'_succ,List.cons.injEq] at hl
  obtain⟨rfl,hl⟩:=hl
  simp only[List.length_cons] at hp
  obtain⟨p1,p2,p3⟩:=pow_ok (p:=x) (x_lt8 h8 hp)
  refine get_i hes ?_
  refine rwI (hlk ..) ?_
  apply ok_mk p1
  apply ok_mk (mul_small p2)
  exact K1 _ _ trivial ⟨rfl,x+1,_,hl,by lia,rfl⟩
 ·rintro ρ H' ⟨rfl,p,j4,hl,hp,rfl⟩
  have:p=w.toNat:=by simpa using hp
  refine rwI this ?_;exact h
theorem lay_ok (n:Nat){a w v:Int}{Q:AV→AHeap→Prop}(hm:MemL H md μ b)(h0:0≤w)(h8:w≤8)(hb:b≤90000)(h:∀ es,MemL (upd H md (.dict es)) md (layN μ a v w.toNat) (b+w.toNat)→Q .none (upd H md (.dict es))) :
  Cn tabP (n+1) 39 [.ref md,.int a,.int w,.int v] H Q:=by
 obtain⟨es,hes,hln,hlk⟩:=hm
 refine enter rfl rfl ?_
 apply ok_mk (src_range h0 (Int.le_trans h8 (by decide)))
 refine forL_map (λp:Nat=>AV.int (p:Int)) (λl ρ H'=>Ex3 λp es j4=>And6 (l=List.range' p l.length) (p+l.length=w.toNat) (ρ=[some (.ref md),some (.int a),some (.int w),some (.int v),j4]) (H'=upd H md (.dict es)) (es.length≤b+p) (∀ x,(es.lookup x).getD (.int 0)=.int (layN μ a v p x))) ?_ ?_ _ _ _
  ⟨0,es,_,by simp,by simp,rfl,(upd_same hes).symm,hln,hlk⟩
 ·rintro x l ρ H' K K1 K2 K3 ⟨p,es,j4,hl,hp,rfl,rfl,hln,hlk⟩
  simp only[List.length_cons,List.range'_succ,List.cons.injEq] at hl
  obtain⟨rfl,hl⟩:=hl
  simp only[List.length_cons] at hp
  obtain⟨p1,p2,p3⟩:=pow_ok (p:=x) (x_lt8 h8 hp)
  apply ok_mk p1
  apply ok_mk (div_small v p3 p2)
  refine setd_i (upd_self ..) (Nat.le_trans hln (Nat.le_trans (Nat.add_le_add hb (Nat.le_of_lt (x_lt8 h8 hp))) (by decide))) ?_
  refine K1 _ _ trivial ⟨x+1,_,_,hl,by lia,rfl,upd_upd ..,Nat.le_trans (putE_len ..) (by lia),λy=>?_⟩
  refine rwI (putE_look ..) ?_
  refine rwI layN_c ?_
  by_cases e:y=a+x
  ·(refine rwI (if_pos e) ?_;refine rwI (if_pos e) ?_);rfl
  ·(refine rwI (if_neg e) ?_;refine rwI (if_neg e) ?_);exact hlk y
 ·rintro ρ H' ⟨p,es,j4,hl,hp,rfl,rfl,hln,hlk⟩
  have:p=w.toNat:=by simpa using hp
  subst this
  exact h es ⟨es,upd_self ..,hln,hlk⟩
theorem own_ok (n:Nat){o:Opd}{l:List Opd}{w:Int}{Q:AV→AHeap→Prop}(h:Q (.bool (own o w)) H):Cn tabP (n+1) 40 [argsV (o::l),.int w] H Q:=by
 refine enter rfl rfl ?_
 cases o with
 |k v=>exact h
 |r x=>
  have h:Q (.bool (decide (2≤x)&&(decide (x < 6)&&decide (w≤sizeS (x - 2))))) H:=h
  refine bcase (b:=decide (2≤x)) (λh2=>?_) λh2=>?_
  ·rw[h2] at h;apply no h2;exact h
  ·
   rw[h2] at h
   apply yes h2
   refine bcase (b:=decide (x < 6)) (λh6=>?_) λh6=>?_
   ·rw[h6] at h;exact no h6 (by refine rwI h6 ?_;exact h)
   ·
    rw[h6] at h
    have a2:=of_decide_eq_true h2
    have a6:=of_decide_eq_true h6
    have hx:x=2∨x=3∨x=4∨x=5:=by lia
    rcases hx with rfl|rfl|rfl|rfl<;>exact h
end
structure MS (H:AHeap)(kd md td:Nat)(m:Mc)(b:Nat):Prop where
 gk:∃ es,H kd=some (.dict es)∧es.length≤b∧∀ x,es.lookup x=(m.κ x).map .int
 gm:MemL H md m.μ b
 gt:H td=some (.list m.tr)∧m.tr.length≤b
 nkm:kd≠md
section
variable {H:AHeap}{kd md td:Nat}{m:Mc}{b:Nat}
theorem MS.mono (h:MS H kd md td m b){b':Nat}(hb:b≤b'):MS H kd md td m b':=by
 obtain⟨⟨es,h1,h2,h3⟩,⟨es',h4,h5,h6⟩,⟨h7,h8⟩,h9⟩:=h
 exact⟨⟨es,h1,by lia,h3⟩,⟨es',h4,by lia,h6⟩,⟨h7,by lia⟩,h9⟩
theorem MS.app (h:MS H kd md td m b)(e:AV):MS (upd H td (.list (m.tr++[e]))) kd md td ⟨m.κ,m.μ,m.tr++[e]⟩ (b+1):=by
 obtain⟨⟨es,h1,h2,h3⟩,⟨es',h4,h5,h6⟩,⟨h7,h8⟩,h9⟩:=h
 have n1:kd≠td:=ne_of_objs h1 h7 (by simp)
 have n2:md≠td:=ne_of_objs h4 h7 (by simp)
 exact⟨⟨es,by refine rwI (upd_ne _ n1) ?_;exact h1,by lia,h3⟩,⟨es',by refine rwI (upd_ne _ n2) ?_;exact h4,by lia,h6⟩,⟨upd_self ..,by simp;lia⟩,h9⟩
theorem MS.mem (h:MS H kd md td m b){es:List (Int×AV)}{μ':Int→Int}{b':Nat}(hb:b≤b')(hm:MemL (upd H md (.dict es)) md μ' b'):MS (upd H md (.dict es)) kd md td ⟨m.κ,μ',m.tr⟩ b':=by
 obtain⟨⟨es1,h1,h2,h3⟩,⟨es',h4,h5,h6⟩,⟨h7,h8⟩,h9⟩:=h
 have n2:td≠md:=ne_of_objs h7 h4 (by simp)
 exact⟨⟨es1,by refine rwI (upd_ne _ h9) ?_;exact h1,by lia,h3⟩,hm,⟨by refine rwI (upd_ne _ n2) ?_;exact h7,by refine (?_:m.tr.length≤b');lia⟩,h9⟩
theorem MS.put (h:MS H kd md td m b)(hb:b≤90000){d v:Int}{Q:AHeap→Prop}(hq:∀ H',MS H' kd md td ⟨λx=>if x=d then some v else m.κ x,m.μ,m.tr⟩ (b+1)→Q H'):opSetI H (.ref kd) (.int d) (.int v) Q:=by
 obtain⟨⟨es,h1,h2,h3⟩,⟨es',h4,h5,h6⟩,⟨h7,h8⟩,h9⟩:=h
 refine opSetI_dict h1 (by lia) (hq _ ⟨⟨_,upd_self ..,Nat.le_trans (putE_len ..) (by lia),λx=>?_⟩,⟨es',by refine rwI (upd_ne _ (Ne.symm h9)) ?_;exact h4,by lia,h6⟩,⟨by refine rwI (upd_ne _ (ne_of_objs h7 h1 (by simp))) ?_;exact h7,by refine (?_:m.tr.length≤b+1);lia⟩,h9⟩)
 refine rwI (putE_look ..) ?_
 refine (?_:_=Option.map AV.int (if x=d then some v else m.κ x))
 by_cases e:x=d
 ·(refine rwI (if_pos e) ?_;refine rwI (if_pos e) ?_);rfl
 ·(refine rwI (if_neg e) ?_;refine rwI (if_neg e) ?_);exact h3 x
theorem MS.push {Q:AV→AHeap→Prop}(h:MS H kd md td m b)(hb:b≤90000){e:AV}(hq:∀ H',MS H' kd md td ⟨m.κ,m.μ,m.tr++[e]⟩ (b+1)→Q .none H'):isLi H (.ref td)∧opAppend H (.ref td) e Q:=
 ⟨⟨td,_,rfl,h.gt.1⟩,td,_,rfl,h.gt.1,by have:=h.gt.2;lia,hq _ (h.app e)⟩
theorem do_tail {n:Nat}{v d:Int}{v0 v1 v3 v4 v6 v8 v9 v10:Option AV}{Q:AV→AHeap→Prop}(h:MS H kd md td m b)(hb:b≤90000)(hq:∀ H',MS H' kd md td ⟨setK m.κ d v,m.μ,m.tr⟩ (b+1)→Q (.bool true) H') :
  wB (Cn tabP n) [.iff (.cmp .ge (.v 7) (.int 0)) [.asgI (.v 2) (.v 7) (.bin .mod (.v 5) (.int 4294967296))] [],.ret (.bool true)]
   [v0,v1,some (.ref kd),v3,v4,some (.int v),v6,some (.int d),v8,v9,v10] H λf x_ H'=>Q (retOf f) H':=by
 cases hd:decide (d ≥ 0) with
 |true=>
  have hs:setK m.κ d v=λx=>if x=d then some (v.fmod 4294967296) else m.κ x:=by simp only[setK,hd]
  rw[hs] at hq
  exact yes hd (h.put hb λH' hH=>hq H' hH)
 |false=>
  have hs:setK m.κ d v=m.κ:=by simp only[setK,hd]
  rw[hs] at hq
  exact no hd (hq H (h.mono (Nat.le_succ b)))
noncomputable def WRow:Row→Prop:=@λy_1=>match @y_1 with
 |.load x_1 x_2 w x_3 x_4=>WOk w
 |.store x_1 x_2 w x_3=>WOk w
 |.slot x_1 s=>0≤s∧s < 4
 |x_1=>True
noncomputable def GRow:Row→List Int→Prop:=@λy_1=>@λy_2=>match @y_1,@y_2 with
 |.bin .shr x_1 x_2 x_3,[x_4,g1]=>g1=1
 |x_1,x_2=>True
theorem wok_le {w:Int}(h:WOk w):0≤w∧w≤8∧w.toNat≤4:=by rcases h with rfl|rfl|rfl<;>decide
theorem small_of {x:Int}(h0:0≤x)(h1:x≤4294967295):smallInt x=true:=by
 obtain⟨k,rfl⟩:=Int.eq_ofNat_of_zero_le h0
 exact decide_eq_true (Nat.lt_of_le_of_lt (Int.ofNat_le.mp h1) (by decide):k < 2 ^ 64)
theorem wn {C:Oracle} {ρ H}{Q:Fl→AEnv→AHeap→Prop}(k:Q .nx ρ H):wB C [] ρ H Q:=k
theorem mul_sm {a b:Int}(h:smallInt a=true):opBin .mul (.int a) (.int b)=some (.int (a * b)):=by
 refine (?_:(if (smallInt a||smallInt b)=true then _ else _)=_)
 refine rwI h ?_;rfl
theorem len1 {g:List Int}(h:g.length=1):∃ x,g=[x]:=List.length_eq_one_iff.mp h
theorem len2 {g:List Int}(h:g.length=2):∃ x y,g=[x,y]:=by
 obtain⟨x,t,rfl⟩:=List.exists_cons_of_length_eq_add_one h
 obtain⟨y,rfl⟩:=len1 (Nat.succ.inj h)
 exact⟨x,y,rfl⟩
set_option maxHeartbeats 4000000 in
theorem do_ext {n:Nat}{d v w:Int}{sx:Bool}{v0 v1 v3 v4 v6 v8 v10:Option AV}{Q:AV→AHeap→Prop}(h:MS H kd md td m b)(hb:b≤90000)(hw:WOk w)(hq:∀ H',MS H' kd md td ⟨setK m.κ d (sxV sx v w),m.μ,m.tr⟩ (b+1)→Q (.bool true) H') :
  wB (Cn tabP n) [.iff (.and (.idx (.v 9) (.int 1)) (.cmp .ge (.bin .mul (.v 5) (.int 2)) (.bin .pow (.int 256) (.idx (.v 9) (.int 0))))) [.asg 5 (.bin .sub (.v 5) (.bin .pow (.int 256) (.idx (.v 9) (.int 0))))] []]
   [v0,v1,some (.ref kd),v3,v4,some (.int v),v6,some (.int d),v8,some (.tup [.int w,.bool sx]),v10] H
   λf ρ H=>match f with
    |.nx=>wB (Cn tabP n) [.iff (.cmp .ge (.v 7) (.int 0)) [.asgI (.v 2) (.v 7) (.bin .mod (.v 5) (.int 4294967296))] [],.ret (.bool true)] ρ H λf x_ H'=>Q (retOf f) H'
    |f=>Q (retOf f) H:=by
 have hpw:opBin .pow (.int 256) (.int w)=some (.int (256 ^ w.toNat)):=by rcases hw with rfl|rfl|rfl<;>rfl
 cases sx with
 |false=>exact do_tail h hb hq
 |true=>
  apply ok_mk (mul_small (a:=v) (b:=2) rfl)
  apply ok_mk hpw
  refine bcase (b:=decide (v * 2 ≥ 256 ^ w.toNat)) (λhge=>?_) λhge=>?_
  ·exact no hge (do_tail h hb λH' hH=>hq H' ((by simp only[sxV,hge]:v=sxV true v w) ▸ hH))
  ·apply yes hge
   apply ok_mk hpw
   exact do_tail h hb λH' hH=>hq H' ((by simp only[sxV,hge]:v - 256 ^ w.toNat=sxV true v w) ▸ hH)
section
variable (n:Nat){Q:AV→AHeap→Prop}(h:MS H kd md td m b)(hb:b≤80000)
include h hb
set_option maxHeartbeats 4000000 in
theorem do_load {d w:Int}{a:Opd}{sx f:Bool}{g:Int}(hw:WOk w)(hq:∀ H',MS H' kd md td ⟨setK m.κ d (sxV sx (getN m.μ g w.toNat) w),m.μ,pushIf (f || !own a w) m.tr (evL g w (getN m.μ g w.toNat) f)⟩ (b+8)→Q (.bool true) H') :
  Cn tabP (n+2) 41 [rowV (.load d a w sx f),.lst [.int g],.ref kd,.ref md,.ref td] H Q:=by
 refine enter rfl rfl ?_
 have hb1:b≤90000:=by lia
 have hb2:b+1≤90000:=by lia
 have hw3:=wok_le hw
 refine getM_ok n h.gm hw3.1 hw3.2.1 ?_
 cases f with
 |true=>
  refine h.push hb1 λH1 h1=>?_
  repeat with_reducible refine wn ?_
  refine do_ext h1 hb2 hw λH' hH=>?_
  exact hq H' (hH.mono (by lia))
 |false=>
  refine own_ok n ?_
  refine bcase (b:=own a w) (λho=>?_) λho=>?_
  ·rw[ho] at hq
   apply yes (notf ho)
   refine h.push hb1 λH1 h1=>?_
   repeat with_reducible refine wn ?_
   refine do_ext h1 hb2 hw λH' hH=>?_
   exact hq H' (hH.mono (by lia))
  ·rw[ho] at hq
   apply no (nott ho)
   repeat with_reducible refine wn ?_
   refine do_ext h hb1 hw λH' hH=>?_
   exact hq H' (hH.mono (by lia))
set_option maxHeartbeats 4000000 in
theorem do_store {w:Int}{a v:Opd}{f:Bool}{g0 g1:Int}(hw:WOk w)(hq:∀ H',MS H' kd md td ⟨m.κ,layN m.μ g0 g1 w.toNat,pushIf (f || !own a w) m.tr (evS g0 w g1 f)⟩ (b+8)→Q (.bool true) H') :
  Cn tabP (n+2) 41 [rowV (.store a v w f),.lst [.int g0,.int g1],.ref kd,.ref md,.ref td] H Q:=by
 refine enter rfl rfl ?_
 have hw3:=wok_le hw
 refine lay_ok n h.gm hw3.1 hw3.2.1 (by lia) λes hes=>?_
 have h1:=(h.mem (b':=b+w.toNat) (Nat.le_add_right _ _) hes).mono (Nat.add_le_add_left hw3.2.2 b)
 have hb4:b+4≤90000:=by lia
 have hb5:b+5≤90000:=by lia
 cases f with
 |true=>
  refine h1.push hb4 λH2 h2=>?_
  repeat with_reducible refine wn ?_
  refine do_tail h2 hb5 λH' hH=>?_
  exact hq H' (hH.mono (by lia))
 |false=>
  refine own_ok n ?_
  refine bcase (b:=own a w) (λho=>?_) λho=>?_
  ·rw[ho] at hq
   apply yes (notf ho)
   refine h1.push hb4 λH2 h2=>?_
   repeat with_reducible refine wn ?_
   refine do_tail h2 hb5 λH' hH=>?_
   exact hq H' (hH.mono (by lia))
  ·rw[ho] at hq
   apply no (nott ho)
   repeat with_reducible refine wn ?_
   refine do_tail h1 hb4 λH' hH=>?_
   exact hq H' (hH.mono (by lia))
set_option maxHeartbeats 4000000 in
theorem do_move {a v:Opd}{f:Bool}{g0 g1:Int}(hq:∀ H',MS H' kd md td ⟨m.κ,layN m.μ g0 (getN m.μ g1 4) 4,m.tr++[evM g0 g1 f]⟩ (b+8)→Q (.bool true) H') :
  Cn tabP (n+2) 41 [rowV (.move a v f),.lst [.int g0,.int g1],.ref kd,.ref md,.ref td] H Q:=by
 refine enter rfl rfl ?_
 refine getM_ok n h.gm (by decide) (by decide) ?_
 refine lay_ok n h.gm (by decide) (by decide) (by lia) λes hes=>?_
 refine (h.mem (b':=b+4) (Nat.le_add_right _ _) hes).push (by lia) λH2 h2=>?_
 repeat with_reducible refine wn ?_
 refine do_tail h2 (by lia) λH' hH=>?_
 exact hq H' (hH.mono (by lia))
set_option maxHeartbeats 4000000 in
theorem do_see {d:Int}{a:Opd}{g:Int}(hq:∀ H',MS H' kd md td ⟨setK m.κ d (g+3),m.μ,m.tr++[evC false g (g+3)]⟩ (b+8)→Q (.bool true) H') :
  Cn tabP (n+2) 41 [rowV (.call d a false),.lst [.int g],.ref kd,.ref md,.ref td] H Q:=by
 refine enter rfl rfl ?_
 refine h.push (by lia) λH2 h2=>?_
 repeat with_reducible refine wn ?_
 refine do_tail h2 (by lia) λH' hH=>?_
 exact hq H' (hH.mono (by lia))
set_option maxHeartbeats 4000000 in
theorem do_poke {d:Int}{a:Opd}{g:Int}(hq:∀ H',MS H' kd md td ⟨setK m.κ d (getN m.μ g 4),layN m.μ g (getN m.μ g 4 * 5+1) 4,m.tr++[evC true g (getN m.μ g 4)]⟩ (b+8)→Q (.bool true) H') :
  Cn tabP (n+2) 41 [rowV (.call d a true),.lst [.int g],.ref kd,.ref md,.ref td] H Q:=by
 refine enter rfl rfl ?_
 refine getM_ok n h.gm (by decide) (by decide) ?_
 apply ok_mk (mul_small (a:=getN m.μ g 4) (b:=5) rfl)
 refine lay_ok n h.gm (by decide) (by decide) (by lia) λes hes=>?_
 refine (h.mem (b':=b+4) (Nat.le_add_right _ _) hes).push (by lia) λH2 h2=>?_
 repeat with_reducible refine wn ?_
 refine do_tail h2 (by lia) λH' hH=>?_
 exact hq H' (hH.mono (by lia))
set_option maxHeartbeats 4000000 in
theorem do_div {d:Int}{x y:Opd}{g0 g1:Int}(hg:0≤g1∧g1≤4294967295)(hq:∀ H',MS H' kd md td (doDiv m d y g0 g1).2 (b+8)→Q (.bool (doDiv m d y g0 g1).1) H') :
  Cn tabP (n+2) 41 [rowV (.bin .divu d x y),.lst [.int g0,.int g1],.ref kd,.ref md,.ref td] H Q:=by
 refine enter rfl rfl ?_
 have hb1:b≤90000:=by lia
 have hb2:b+1≤90000:=by lia
 unfold doDiv at hq
 refine bcase (b:=g1==0) (λh0=>?_) λh0=>?_
 ·rw[h0] at hq
  have hdiv:=div_small g0 (notf h0) (small_of hg.1 hg.2)
  cases y with
  |r y=>
   refine h.push hb1 λH2 h2=>?_
   apply no h0
   apply ok_mk hdiv
   repeat with_reducible refine wn ?_
   refine do_tail h2 hb2 λH' hH=>?_
   exact hq H' (hH.mono (by lia))
  |k y=>
   apply no h0
   apply no h0
   apply ok_mk hdiv
   repeat with_reducible refine wn ?_
   refine do_tail h hb1 λH' hH=>?_
   exact hq H' (hH.mono (by lia))
 ·rw[h0] at hq
  have q:∀ H2,MS H2 kd md td ⟨m.κ,m.μ,m.tr++[evD g0 g1]⟩ (b+1)→Q (.bool false) H2:=λH2 h2=>hq H2 (h2.mono (by lia))
  cases y with
  |r y=>exact h.push hb1 λH2 h2=>yes h0 (q H2 h2)
  |k y=>exact yes h0 (h.push hb1 λH2 h2=>yes h0 (q H2 h2))
set_option maxHeartbeats 4000000 in
theorem do_bin {o:Bop}{d:Int}{x y:Opd}{g0 g1:Int}(ho:isDivu o=false)(hg:(0≤g0∧g0≤4294967295)∧0≤g1∧g1≤4294967295)(hs:o=.shr→g1=1)(hq:∀ H',MS H' kd md td ⟨setK m.κ d (binV o g0 g1),m.μ,m.tr⟩ (b+8)→Q (.bool true) H') :
  Cn tabP (n+2) 41 [rowV (.bin o d x y),.lst [.int g0,.int g1],.ref kd,.ref md,.ref td] H Q:=by
 refine enter rfl rfl ?_
 have hb1:b≤90000:=by lia
 have hq:∀ H',MS H' kd md td ⟨setK m.κ d (binV o g0 g1),m.μ,m.tr⟩ (b+1)→Q (.bool true) H':=λH' hH=>hq H' (hH.mono (by lia))
 cases o with
 |divu=>exact (Bool.false_ne_true ho.symm).elim
 |shr=>
  rw[hs rfl] at hq ⊢
  exact do_tail h hb1 hq
 |ltu=>
  refine bcase (b:=decide (g0 < g1)) (λhlt=>?_) λhlt=>?_
  ·rw[show binV .ltu g0 g1=0 from if_neg (of_decide_eq_false hlt)] at hq
   exact no hlt (do_tail h hb1 hq)
  ·rw[show binV .ltu g0 g1=1 from if_pos (of_decide_eq_true hlt)] at hq
   exact yes hlt (do_tail h hb1 hq)
 |xor=>exact do_tail h hb1 hq
 |mul=>
  apply ok_mk (mul_sm (small_of hg.1.1 hg.1.2))
  exact do_tail h hb1 hq
 |add=>exact do_tail h hb1 hq
set_option maxHeartbeats 4000000 in
theorem do_ok {r:Row}{g:List Int}(hl:g.length=r.args.length)(hw:WRow r)(hg:∀ x∈g,0≤x∧x≤4294967295)(hs:GRow r g)
  (hq:∀ H',MS H' kd md td (doRow m r g).2 (b+8)→Q (.bool (doRow m r g).1) H'):Cn tabP (n+2) 41 [rowV r,.lst (g.map .int),.ref kd,.ref md,.ref td] H Q:=by
 have hb1:b≤90000:=Nat.le_trans hb (by decide)
 cases r with
 |slot d s=>
  refine enter rfl rfl ?_
  apply ok_mk (show getIx H (globV 3) (.int s)=some (.int (baseS s)) by rcases i4 hw.1 hw.2 with rfl|rfl|rfl|rfl<;>rfl)
  repeat with_reducible refine wn ?_
  refine do_tail h hb1 λH' hH=>?_
  exact hq H' (hH.mono (by lia))
 |name d=>
  refine enter rfl rfl ?_
  repeat with_reducible refine wn ?_
  refine do_tail h hb1 λH' hH=>?_
  exact hq H' (hH.mono (by lia))
 |load d a w sx f=>obtain⟨g0,rfl⟩:=len1 hl;exact do_load n h hb hw hq
 |store a v w f=>obtain⟨g0,g1,rfl⟩:=len2 hl;exact do_store n h hb hw hq
 |move a v f=>obtain⟨g0,g1,rfl⟩:=len2 hl;exact do_move n h hb hq
 |call d a p=>
  obtain⟨g0,rfl⟩:=len1 hl
  cases p with
  |false=>exact do_see n h hb hq
  |true=>exact do_poke n h hb hq
 |copy d a=>
  obtain⟨g0,rfl⟩:=len1 hl
  refine enter rfl rfl ?_
  repeat with_reducible refine wn ?_
  refine do_tail h hb1 λH' hH=>?_
  exact hq H' (hH.mono (by lia))
 |bin o d x y=>
  obtain⟨g0,g1,rfl⟩:=len2 hl
  have hg1:=hg g1 (.tail _ (.head _))
  have hq:∀ H',MS H' kd md td (doBin m o d y g0 g1).2 (b+8)→Q (.bool (doBin m o d y g0 g1).1) H':=hq
  unfold doBin at hq
  cases ho:isDivu o with
  |true=>
   rw[ho] at hq
   have e:o=.divu:=by cases o<;>first|rfl|exact (Bool.false_ne_true ho).elim
   refine rwI e ?_
   exact do_div n h hb hg1 hq
  |false=>
   rw[ho] at hq
   exact do_bin n h hb ho ⟨hg g0 (.head _),hg1⟩ (λe=>by rw[e] at hs;exact hs) hq
end
end
noncomputable def evalO (κ:Int→Option Int):Opd→Option Int:=@λy_1=>match @y_1 with
 |.r n=>κ n
 |.k v=>some v
noncomputable def evalL (κ:Int→Option Int):List Opd→Option (List Int):=@λy_1=>match @y_1 with
 |[]=>some []
 |o::l=>match evalO κ o,evalL κ l with
  |some x,some xs=>some (x::xs)
  |_,_=>none
theorem evalL_c {κ:Int→Option Int}{o:Opd}{l:List Opd}:evalL κ (o::l)=(match evalO κ o,evalL κ l with
 |some x,some xs=>some (x::xs)
 |_,_=>none):=rfl
noncomputable def stepO (m:Mc) (r:Row):Option (Bool×Mc):=(evalL m.κ r.args).map (doRow m r)
noncomputable def rowsO (m:Mc):List Row→Option (Bool×Mc):=@λy_1=>match @y_1 with
 |[]=>some (true,m)
 |r::l=>match stepO m r with
  |none=>none
  |some (false,m')=>some (false,m')
  |some (true,m')=>rowsO m' l
theorem rowsO_cons {m:Mc}{r:Row}{l:List Row}:rowsO m (r::l)=(match stepO m r with
 |none=>none
 |some (false,m')=>some (false,m')
 |some (true,m')=>rowsO m' l):=rfl
theorem stepO_e {m:Mc}{r:Row}:stepO m r=(evalL m.κ r.args).map (doRow m r):=rfl
noncomputable def resD (m:Mc):AV:=.tup [.str "division",.int (getN m.μ 8192 8),.lst m.tr]
noncomputable def resG (m:Mc) (v:Int):AV:=.tup [.int v,.int (getN m.μ 8192 8),.lst m.tr]
noncomputable def resL (m:Mc):AV:=.tup [.str "long",.int 0,.lst m.tr]
noncomputable def play (P:Int→List Row) (E:Ens):Nat→Int→Mc→Option AV:=@λy_1=>@λy_2=>@λy_3=>match @y_1,@y_2,@y_3 with
 |0,x_1,m=>some (resL m)
 |n+1,at',m=>match rowsO m (P at') with
  |none=>none
  |some (false,m')=>some (resD m')
  |some (true,m')=>match E at' with
   |.give r=>(m'.κ r).map (resG m')
   |.jump t=>play P E n t m'
   |.branch r a b=>match m'.κ r with
    |none=>none
    |some v=>play P E n (match v==0 with|true=>b|false=>a) m'
theorem play_succ {P:Int→List Row}{E:Ens}{n:Nat}{at':Int}{m:Mc}:play P E (n+1) at' m=(match rowsO m (P at') with
 |none=>none
 |some (false,m')=>some (resD m')
 |some (true,m')=>match E at' with
  |.give r=>(m'.κ r).map (resG m')
  |.jump t=>play P E n t m'
  |.branch r a b=>match m'.κ r with
   |none=>none
   |some v=>play P E n (match v==0 with|true=>b|false=>a) m'):=rfl
noncomputable def regsIn:List (Nat×Int):=[(0,0),(1,1),(2,7),(3,8),(4,9),(5,10)]
noncomputable def kapS (ws:List Int) (κ:Int→Option Int) (p:Nat×Int):Int→Option Int:=λx=>if x=p.2 then some (ws.getD p.1 0) else κ x
noncomputable def muS (μ:Int→Int) (p:Nat):Int→Int:=λx=>if x=8192+(p:Int) then 17 * (p:Int)+1 else μ x
noncomputable def kap0 (ws:List Int):Int→Option Int:=regsIn.foldl (kapS ws) λx_=>none
noncomputable def mu0:Int→Int:=(List.range 8).foldl muS λx_=>0
noncomputable def mc0 (ws:List Int):Mc:=⟨kap0 ws,mu0,[]⟩
noncomputable def KB (m:Mc):Prop:=∀ x v,m.κ x=some v→0≤v∧v≤4294967295
theorem setK_KB {κ:Int→Option Int}(h:∀ x v,κ x=some v→0≤v∧v≤4294967295)(d w:Int):∀ x v,setK κ d w x=some v→0≤v∧v≤4294967295:=by
 intro x v hx
 unfold setK at hx
 refine bcase (b:=decide (d ≥ 0)) (λhd=>?_) λhd=>?_
 ·rw[hd] at hx;exact h x v hx
 ·
  rw[hd] at hx
  simp only at hx
  by_cases e:x=d
  ·rw[if_pos e] at hx;(replace hx:=Option.some.inj hx;subst hx)
   exact⟨Int.fmod_nonneg_of_pos w (by decide),Int.le_of_lt_add_one (show w.fmod 4294967296 < 4294967295+1 from Int.fmod_lt_of_pos w (by decide))⟩
  ·rw[if_neg e] at hx;exact h x v hx
theorem one_P {P:Mc→Prop}{m:Mc}{g:List Int}{k:Int→Bool×Mc}(h:P m)(hk:∀ x,P (k x).2):P (on1 m g k).2:=by
 cases g with
 |nil=>exact h
 |cons x g=>cases g with
  |nil=>exact hk x
  |cons _ _=>exact h
theorem two_P {P:Mc→Prop}{m:Mc}{g:List Int}{k:Int→Int→Bool×Mc}(h:P m)(hk:∀ x y,P (k x y).2):P (on2 m g k).2:=by
 cases g with
 |nil=>exact h
 |cons x g=>cases g with
  |nil=>exact h
  |cons y g=>cases g with
   |nil=>exact hk x y
   |cons _ _=>exact h
theorem doRow_KB {m:Mc}(h:KB m)(r:Row)(g:List Int):KB (doRow m r g).2:=by
 cases r with
 |slot d s=>exact setK_KB h _ _
 |name d=>exact setK_KB h _ _
 |load d a w sx f=>exact one_P (P:=KB) h λx=>setK_KB h _ _
 |store a v w f=>exact two_P (P:=KB) h λx y=>h
 |move a b f=>exact two_P (P:=KB) h λx y=>h
 |call d a p=>exact one_P (P:=KB) h λx=>by cases p<;>exact setK_KB h _ _
 |copy d a=>exact one_P (P:=KB) h λx=>setK_KB h _ _
 |bin o d a b=>
  refine two_P (P:=KB) h λx y=>?_
  unfold doBin
  split
  ·unfold doDiv
   split
   ·exact h
   ·exact setK_KB h _ _
  ·exact setK_KB h _ _
theorem evalL_len {κ:Int→Option Int}:∀ {l:List Opd}{g:List Int},evalL κ l=some g→g.length=l.length:=@λy_1=>@λy_2=>@λy_3=>match @y_1,@y_2,@y_3 with
 |[],g,h=>by (replace h:=Option.some.inj h;subst h);rfl
 |o::l,g,h=>by
  rw[evalL_c] at h
  refine ocase (o:=evalO κ o) (λh1=>?_) λx h1=>?_
  ·rw[h1] at h;cases h
  ·
   refine ocase (o:=evalL κ l) (λh2=>?_) λxs h2=>?_
   ·rw[h1,h2] at h;cases h
   ·rw[h1,h2] at h;cases h;simp[evalL_len h2]
theorem evalL_cons {κ:Int→Option Int}{o:Opd}{l:List Opd}{g:List Int}(h:evalL κ (o::l)=some g):∃ x xs,evalO κ o=some x∧evalL κ l=some xs∧g=x::xs:=by
 rw[evalL_c] at h
 cases h1:evalO κ o with
 |none=>rw[h1] at h;cases h
 |some x=>
  cases h2:evalL κ l with
  |none=>rw[h1,h2] at h;exact nomatch h
  |some xs=>rw[h1,h2] at h;cases h;exact⟨x,xs,rfl,rfl,rfl⟩
theorem evalL_KB {m:Mc}(h:KB m):∀ {l:List Opd}{g:List Int},(∀ o∈l,OpdOk o)→evalL m.κ l=some g→∀ x∈g,0≤x∧x≤4294967295:=@λy_1=>@λy_2=>@λy_3=>@λy_4=>match @y_1,@y_2,@y_3,@y_4 with
 |[],g,x_1,e=>by (replace e:=Option.some.inj e;subst e);intro x hx;exact nomatch hx
 |o::l,g,ho,e=>by
  obtain⟨x,xs,h1,h2,rfl⟩:=evalL_cons e
  intro y hy
  rcases List.mem_cons.mp hy with rfl|hy
  ·have:=ho o (.head _)
   cases o with
   |r n=>exact h n y h1
   |k v=>cases h1;exact this
  ·exact evalL_KB h (λo' h'=>ho o' (.tail _ h')) h2 y hy
noncomputable def PRow (r:Row):Prop:=(∀ o∈r.args,OpdOk o)∧WRow r∧(∀ d x y,r=.bin .shr d x y→y=.k 1)
theorem PRow.g {r:Row}(h:PRow r){κ:Int→Option Int}{g:List Int}(e:evalL κ r.args=some g):GRow r g:=by
 cases r with
 |bin o d x y=>
  cases o with
  |shr=>
   have hy:=h.2.2 d x y rfl
   subst hy
   obtain⟨a,as,h1,h2,rfl⟩:=evalL_cons e
   obtain⟨b,bs,h3,h4,rfl⟩:=evalL_cons h2
   cases h3;cases h4;exact rfl
  |_=>trivial
 |_=>trivial
section
variable {kd md td:Nat}
theorem given_ok {C:Oracle}{H:AHeap}{κ:Int→Option Int}{es:List (Int×AV)}{Q:AV→AHeap→Prop}{ρ:AEnv}{l:List Opd}{g:List Int}(hk:H kd=some (.dict es))(he:∀ x,es.lookup x=(κ x).map .int)
  (hm:mask [5] 0 ρ=[none,none,none,none,none,some (.ref kd),none,none,none,none,none,none,none,none,none,none,none])
  (hg:evalL κ l=some g) (hq:Q (.lst (g.map .int)) H) :
  compL (guardOf (l.map opdV) none) (stepC C (.ife (.cmp .eq (.v 15) (.str "r")) (.idx (.v 5) (.v 16)) (.v 16)) (.many [15,16]) [] (mask [5] 0 ρ)) (l.map opdV) H λys H=>newL true ys H Q:=by
 refine rwI hm ?_
 let Iv:List (Opd)→AHeap→(List AV→AHeap→Prop)→Prop:=λl G Q'=>G=H∧∃ g,evalL κ l=some g∧Q' (g.map .int) H
 refine compL_map opdV Iv ?_ ?_ l H _ ⟨rfl,g,hg,hq⟩
 ·rintro o l G Q' K hk' ⟨rfl,g,hg,hq⟩
  obtain⟨x,xs,h1,h2,rfl⟩:=evalL_cons hg
  cases o with
  |r n=>
   have h1:κ n=some x:=h1
   have hl:getIx G (.ref kd) (.int n)=some (.int x):=by (refine rwI (getIx_dict hk) ?_;refine rwI (he ..) ?_;refine rwI h1 ?_);rfl
   apply ok_mk hl
   exact hk' _ _ trivial ⟨rfl,xs,h2,hq⟩
  |k v=>
   cases h1
   exact hk' _ _ trivial ⟨rfl,xs,h2,hq⟩
 ·rintro G Q' ⟨rfl,g,hg,hq⟩
  (replace hg:=Option.some.inj hg;subst hg);exact hq
end
theorem parts_ix {H:AHeap}{P:Int→List Row}{i:Int}(i0:0≤i)(i1:i < 4):getIx H (partsV P) (.int i)=some (rowsV (P i)):=by
 rcases i4 i0 i1 with rfl|rfl|rfl|rfl<;>rfl
theorem words_ix {H:AHeap}{ws:List Int}{p:Nat}(h:p < ws.length):getIx H (.lst (ws.map .int)) (.int (p:Int))=some (.int (ws.getD p 0)):=by
 exact atIx_nat (by (refine rwI (List.getElem?_map) ?_;refine rwI (List.getD_eq_getElem?_getD) ?_;refine rwI (List.getElem?_eq_getElem h) ?_);rfl)
theorem kap0_KB {ws:List Int}(hw:WordsOk ws):KB ⟨kap0 ws,mu0,[]⟩:=by
 have:∀ (l:List (Nat×Int)) (κ:Int→Option Int),(∀ p∈l,p.1 < ws.length)→(∀ x v,κ x=some v→0≤v∧v≤4294967295)→∀ x v,l.foldl (kapS ws) κ x=some v→0≤v∧v≤4294967295:=by
  intro l
  induction l with
  |nil=>intro κ _ hκ;exact hκ
  |cons p l ih=>
   intro κ hp hκ
   refine ih _ (λq hq=>hp q (.tail _ hq)) λx v hx=>?_
   unfold kapS at hx
   by_cases e:x=p.2
   ·rw[if_pos e] at hx;(replace hx:=Option.some.inj hx;subst hx)
    have hlt:=hp p (.head _)
    refine hw.2.1 _ ?_
    simp only[List.getD,List.getElem?_eq_getElem hlt,Option.getD_some]
    exact List.getElem_mem hlt
   ·rw[if_neg e] at hx;exact hκ x v hx
 exact this regsIn _ (λp hp=>by refine rwI hw.1 ?_;exact (by decide:∀ p∈regsIn,p.1 < 6) p hp) (λx v hx=>by cases hx)
noncomputable def goO (f:Mc→Option (Bool×Mc)) (p:Bool×Mc):Option (Bool×Mc):=match p with
 |(true,m)=>f m
 |(false,m)=>some (false,m)
theorem rowsO_c {m:Mc}{r:Row}{l:List Row}{g:List Int}(e:evalL m.κ r.args=some g):rowsO m (r::l)=goO (λm=>rowsO m l) (doRow m r g):=by
 (refine rwI rowsO_cons ?_;refine rwI stepO_e ?_;refine rwI e ?_)
 refine (?_:(match some (doRow m r g) with|none=>none|some (false,m')=>some (false,m')|some (true,m')=>rowsO m' l)=_)
 rcases doRow m r g with⟨b,m'⟩
 cases b<;>rfl
noncomputable def brO (R:Int→List Row) (E:Ens) (n:Nat) (m:Mc) (a b:Int):Option Int→Option AV:=@λy_1=>match @y_1 with
 |none=>none
 |some v=>play R E n (match v==0 with|true=>b|false=>a) m
noncomputable def endO (R:Int→List Row) (E:Ens) (n:Nat) (m:Mc):End→Option AV:=@λy_1=>match @y_1 with
 |.give r=>(m.κ r).map (resG m)
 |.jump t=>play R E n t m
 |.branch r a b=>brO R E n m a b (m.κ r)
theorem play_t {R:Int→List Row}{E:Ens}{n:Nat}{a:Int}{m m1:Mc}(e:rowsO m (R a)=some (true,m1)):play R E (n+1) a m=endO R E n m1 (E a):=by
 (refine rwI play_succ ?_;refine rwI e ?_)
 refine (?_:(match E a with|_=>_)=_)
 cases E a<;>rfl
theorem play_f {R:Int→List Row}{E:Ens}{n:Nat}{a:Int}{m m1:Mc}(e:rowsO m (R a)=some (false,m1)):play R E (n+1) a m=some (resD m1):=by (refine rwI play_succ ?_;refine rwI e ?_;rfl)
theorem EndsOk.succ {br:Bool}{E:Ens}(h:EndsOk br E){i:Int}(i0:0≤i)(i1:i < 4):(E i).succ=succS br i:=by
 rcases i4 i0 i1 with rfl|rfl|rfl|rfl
 ·refine rwI h.e0 ?_;rfl
 ·rcases h.e1 with⟨rfl,e⟩|⟨rfl,r,_,_,e⟩<;>refine rwI e ?_<;>rfl
 ·refine rwI h.e2 ?_;rfl
 ·obtain⟨r,_,_,e⟩:=h.e3;refine rwI e ?_;rfl
theorem rowsO_s {m:Mc}{r:Row}{l:List Row}{q:Bool×Mc}(h:rowsO m (r::l)=some q):∃ g,evalL m.κ r.args=some g∧goO (λm=>rowsO m l) (doRow m r g)=some q:=by
 refine ocase (o:=evalL m.κ r.args) (λe=>?_) λg e=>⟨g,e,(rowsO_c e).symm.trans h⟩
 rw[rowsO_cons,stepO_e,e] at h;exact none_some h
theorem goO_s {f:Mc→Option (Bool×Mc)}{p:Bool×Mc}{b:Bool}{m1:Mc}(h:goO f p=some (b,m1)):(p.1=true→f p.2=some (b,m1))∧(p.1=false→b=false∧p.2=m1):=by
 obtain⟨c,m⟩:=p
 cases c with
 |true=>exact⟨λx_=>h,λq=>(Bool.false_ne_true q.symm).elim⟩
 |false=>exact⟨λq=>(Bool.false_ne_true q).elim,λx_=>⟨congrArg Prod.fst (Option.some.inj h).symm,congrArg Prod.snd (Option.some.inj h)⟩⟩
theorem rowsO_e {b:Bool}{m m1:Mc}(h:rowsO m []=some (b,m1)):b=true∧m=m1:=⟨congrArg Prod.fst (Option.some.inj h).symm,congrArg Prod.snd (Option.some.inj h)⟩
theorem play_s {R:Int→List Row}{E:Ens}{n:Nat}{a:Int}{m:Mc}{v:AV}(h:play R E (n+1) a m=some v):∃ b m1,rowsO m (R a)=some (b,m1)∧(b=false→v=resD m1)∧(b=true→endO R E n m1 (E a)=some v):=by
 refine ocase (o:=rowsO m (R a)) (λe=>?_) λq e=>⟨q.1,q.2,e,λhb=>?_,λhb=>?_⟩
 ·rw[play_succ,e] at h;exact none_some h
 ·exact (Option.some.inj ((play_f (hb ▸ e)).symm.trans h)).symm
 ·exact (play_t (hb ▸ e)).symm.trans h
section
variable {kd md td:Nat}{G:AHeap}{m:Mc}{b:Nat}
theorem MS.look (M:MS G kd md td m b){x val:Int}(h:m.κ x=some val):getIx G (.ref kd) (.int x)=some (.int val):=by
 obtain⟨es,hes,_,hlk⟩:=M.gk
 (refine rwI (getIx_dict hes) ?_;refine rwI (hlk ..) ?_;refine rwI h ?_);rfl
theorem MS.frz (M:MS G kd md td m b):MemL (del G td) md m.μ b∧∀ x val,m.κ x=some val→getIx (del G td) (.ref kd) (.int x)=some (.int val):=by
 obtain⟨es,h1,h2,h3⟩:=M.gm
 obtain⟨es',g1,g2,g3⟩:=M.gk
 refine⟨⟨es,(del_ne (ne_of_objs h1 M.gt.1 nofun)).trans h1,h2,h3⟩,λx val h=>?_⟩
 (refine rwI (getIx_dict (es:=es') ((del_ne (ne_of_objs g1 M.gt.1 nofun)).trans g1)) ?_;refine rwI (g3 ..) ?_;refine rwI h ?_);rfl
theorem MS.byte (M:MS G kd md td m b){p:Nat}(hb:b≤90000){Q:AHeap→Prop}(q:∀ G,MS G kd md td ⟨m.κ,muS m.μ p,m.tr⟩ (b+1)→Q G):opSetI G (.ref md) (.int (8192+(p:Int))) (.int (17 * (p:Int)+1)) Q:=by
 obtain⟨es,hes,hln,hlk⟩:=M.gm
 refine opSetI_dict hes (by lia) (q _ (M.mem (Nat.le_succ b) ⟨_,upd_self ..,Nat.le_trans (putE_len ..) (Nat.succ_le_succ hln),λx=>?_⟩))
 refine rwI (putE_look ..) ?_
 unfold muS
 by_cases e:x=8192+(p:Int)
 ·(refine rwI (if_pos e) ?_;refine rwI (if_pos e) ?_);rfl
 ·(refine rwI (if_neg e) ?_;refine rwI (if_neg e) ?_);exact hlk x
end
theorem MS.new {H:AHeap}{kd md td:Nat}(hm:upd H kd (.dict []) md=none)(ht:upd (upd H kd (.dict [])) md (.dict []) td=none):MS (upd (upd (upd H kd (.dict [])) md (.dict [])) td (.list [])) kd md td ⟨λx_=>none,λx_=>0,[]⟩ 0:=
 have a:=new_ne hm
 have b:=new_ne ht
 have c:=new_ne b.2
 ⟨⟨[],(upd_ne _ c.1.symm).trans ((upd_ne _ a.1.symm).trans (upd_self ..)),Nat.le_refl _,λx_=>rfl⟩,⟨[],(upd_ne _ b.1.symm).trans (upd_self ..),Nat.le_refl _,λx_=>rfl⟩,⟨upd_self ..,Nat.le_refl _⟩,a.1.symm⟩
set_option maxHeartbeats 4000000 in
set_option tactic.hygienic true in
theorem play_ok (n:Nat){H:AHeap}{P:Int→List Row}{E:Ens}{br:Bool}{ws:List Int}{v:AV}{Q:AV→AHeap→Prop}(hE:EndsOk br E)(hw:WordsOk ws)(hP:∀ i,0≤i→i < 4→(P i).length≤20∧∀ r∈P i,PRow r)
  (hv:play P E 40 0 (mc0 ws)=some v) (h:∀ H',Q v H'):Cn tabP (n+3) 42 [partsV P,endsV E,.lst (ws.map .int)] H Q:=by
 refine enter rfl rfl ?_
 intro kd hkd md hmd td htd
 refine wB_gen (λG=>MS G kd md td ⟨λx_=>none,λx_=>0,[]⟩ 0) (MS.new hmd htd) λG0 M0=>?_
 clear hkd hmd htd
 let Iv:List (Nat×Int)→AEnv→AHeap→Prop:=λl ρ G=>Ex4 λκ b j3 j9=>And5 (∀ p∈l,p∈regsIn) (ρ=[some (partsV P),some (endsV E),some (.lst (ws.map .int)),j3,none,some (.ref kd),some (.ref md),some (.ref td),some (.int 0),j9,none,none,none,none,none,none,none]) (MS G kd md td ⟨κ,λx_=>0,[]⟩ b) (b+l.length≤6) (l.foldl (kapS ws) κ=kap0 ws)
 refine forL_mapE (l:=regsIn) (λp:Nat×Int=>AV.tup [.int (p.1:Int),.int p.2]) Iv rfl ⟨_,0,_,_,λx_ hp=>hp,rfl,M0,by decide,rfl⟩ ?_ ?_
 ·clear hP hv h hE M0
  rintro x0 l ρ G K K1 K2 K3 ⟨κ,b,j3,j9,hl,rfl,M,hb,hf⟩
  obtain⟨p,x⟩:=x0
  have hp6:p < ws.length:=hw.1 ▸ (by decide:∀ p∈regsIn,p.1 < 6) (p,x) (hl _ (.head _))
  rw[List.length_cons] at hb
  apply ok_mk (words_ix hp6)
  refine M.put (by lia) λG' M'=>?_
  exact K1 _ _ trivial ⟨_,b+1,_,_,λq hq=>hl q (.tail _ hq),rfl,M',by lia,hf⟩
 ·rintro ρ G ⟨κ,b,j3,j9,_,rfl,M,hb,hf⟩
  have hf:κ=kap0 ws:=hf
  rw[hf] at M
  have hb6:b≤6:=hb
  clear M0 hf hb
  let Iv:List (Nat)→AEnv→AHeap→Prop:=λ(l:List Nat) ρ G=>Ex3 λμ b j3=>And4 (ρ=[some (partsV P),some (endsV E),some (.lst (ws.map .int)),j3,none,some (.ref kd),some (.ref md),some (.ref td),some (.int 0),j9,none,none,none,none,none,none,none]) (MS G kd md td ⟨kap0 ws,μ,[]⟩ b) (b+l.length≤14) (l.foldl muS μ=mu0)
  refine forL_mapE (l:=List.range 8) (λp:Nat=>AV.int (p:Int)) Iv rfl ⟨_,b,_,rfl,M,Nat.add_le_add_right hb6 8,rfl⟩ ?_ ?_
  ·clear hP hv h hE
   rintro p l ρ G K K1 K2 K3 ⟨μ,b,j3,rfl,M,hb,hf⟩
   rw[List.length_cons] at hb
   exact M.byte (by lia) λG M'=>K1 _ _ trivial ⟨_,b+1,_,rfl,M',by lia,hf⟩
  ·clear M hb6
   rintro ρ G ⟨μ,b,j3,rfl,M,hb,hf⟩
   have hf:μ=mu0:=hf
   rw[hf] at M
   have hb14:b≤14:=hb
   have hk0:=kap0_KB hw
   clear hf hb hw
   let Iv:List (Nat)→AEnv→AHeap→Prop:=λl ρ G=>Ex11 λat' m b j3 j4 j9 j10 j11 j12 j13 j14=>And7 (ρ=[some (partsV P),some (endsV E),some (.lst (ws.map .int)),j3,j4,some (.ref kd),some (.ref md),some (.ref td),some (.int at'),j9,j10,j11,j12,j13,j14,none,none]) (0≤at') (at' < 4) (MS G kd md td m b) (b+200 * l.length≤9000) (KB m) (play P E l.length at' m=some v)
   refine forL_mapE (l:=List.range' 0 40) (λp:Nat=>AV.int (p:Int)) Iv rfl
    ⟨0,_,b,_,_,_,_,_,_,_,_,rfl,by decide,by decide,M,Nat.le_trans (Nat.add_le_add_right hb14 _) (by decide),hk0,hv⟩ ?_ ?_
   ·clear M hb14 hk0 hv
    rintro t l ρ G K K1 K2 K3 ⟨a,m,b,j3,j4,j9,j10,j11,j12,j13,j14,rfl,a0,a1,M,hb,hk,hpl⟩
    obtain⟨hPl,hPr⟩:=hP a a0 a1
    rw[List.length_cons] at hb
    obtain⟨fl,m1,hro,hfa,htr⟩:=play_s hpl
    apply ok_mk (parts_ix a0 a1)
    let Iv:List (Row)→AEnv→AHeap→Prop:=λl2 ρ G2=>Ex5 λm2 b2 j9 j10 j11=>And6 (∀ r∈l2,PRow r) (ρ=[some (partsV P),some (endsV E),some (.lst (ws.map .int)),j3,some (.int (t:Int)),some (.ref kd),some (.ref md),some (.ref td),some (.int a),j9,j10,j11,j12,j13,j14,none,none]) (MS G2 kd md td m2 b2) (b2+8 * l2.length≤b+160) (KB m2) (rowsO m2 l2=some (fl,m1))
    refine forL_map rowV Iv ?_ ?_ (P a) _ _ ⟨m,b,_,_,_,hPr,rfl,M,by lia,hk,hro⟩
    ·clear K1 K2 htr hP hPr hPl hpl M hk hro hE
     rintro r l2 ρ G2 K' K1' K2' K3' ⟨m2,b2,j9,j10,j11,hr,rfl,M2,hb2,hk2,hrun⟩
     have hr0:=hr r (.head _)
     obtain⟨g,hg,hgo⟩:=rowsO_s hrun
     rw[List.length_cons] at hb2
     obtain⟨es,hes,hln,hlk⟩:=M2.gk
     refine given_ok (kd:=kd) (κ:=m2.κ) (g:=g) hes hlk rfl hg ?_
     refine do_ok n M2 (by lia) (evalL_len hg) hr0.2.1 (evalL_KB hk2 hr0.1 hg) (hr0.g hg) λG3 M3=>?_
     have hk3:=doRow_KB hk2 r g
     clear M2 hk2 hrun hes hlk hg hr0
     replace hgo:=goO_s hgo
     refine bcase (b:=(doRow m2 r g).1) (λho=>?_) λho=>?_
     ·refine rwI ho ?_
      have e:=hgo.2 ho
      rw[e.2] at M3
      clear hgo hk3 hr K1' K2'
      apply ghost_i
      ·exact .frzVar (n:=7) rfl M3.gt.1
      refine getM_ok (n+1) M3.frz.1 (by decide) (by decide) (K3' _ _ _ (K3 _ _ _ ?_))
      refine (?_:Q (resD m1) _)
      refine rwS (hfa e.1) ?_
      exact h _
     ·refine rwI ho ?_
      exact K1' _ _ trivial ⟨_,b2+8,_,_,_,λq hq=>hr q (.tail _ hq),rfl,M3,by lia,hk3,hgo.1 ho⟩
    ·clear M hk hro hPl hPr
     rintro ρ G2 ⟨m2,b2,j9,j10,j11,_,rfl,M2,hb2,hk2,hrun⟩
     have hpl:=htr (rowsO_e hrun).1
     rw[← (rowsO_e hrun).2] at hpl
     clear hrun
     have hsc:=hE.succ a0 a1
     apply ok_mk (ends_ix a0 a1)
     have next:∀ a' j3 j4 j9 j10 j11 j12 j13 j14,a'∈succS br a→play P E l.length a' m2=some v→K .nx [some (partsV P),some (endsV E),some (.lst (ws.map .int)),j3,j4,some (.ref kd),some (.ref md),some (.ref td),some (.int a'),j9,j10,j11,j12,j13,j14,none,none] G2:=λa' j3 j4 j9 j10 j11 j12 j13 j14 ha' hp=>
      K1 _ _ trivial ⟨a',m2,b2,_,_,_,_,_,_,_,_,rfl,(succS_in ha').1,(succS_in ha').2,M2,Nat.le_trans (Nat.add_le_add_right hb2 _) (by lia),hk2,hp⟩
     clear K1 K2 hb hb2 htr hfa hP hE a0 a1
     generalize E a=e at hpl hsc
     cases e with
     |give r=>
      refine (Option.map_eq_some_iff.mp hpl).elim λval hv=>?_
      apply ghost_i
      ·exact .frzVar (n:=7) rfl M2.gt.1
      apply ok_mk (M2.frz.2 r val hv.1)
      refine getM_ok (n+1) M2.frz.1 (by decide) (by decide) (K3 _ _ _ ?_)
      refine (?_:Q (resG m2 val) _)
      refine rwI hv.2 ?_
      exact h _
     |jump t'=>exact next t' _ _ _ _ _ _ _ _ (hsc ▸ .head _) hpl
     |branch r x y=>
      have hpl:brO P E l.length m2 x y (m2.κ r)=some v:=hpl
      refine ocase (o:=m2.κ r) (λhval=>?_) λval hval=>?_
      ·rw[hval] at hpl;exact none_some hpl
      ·rw[hval] at hpl
       replace hpl:play P E l.length (match val==0 with|true=>y|false=>x) m2=some v:=hpl
       apply ok_mk (M2.look hval)
       refine bcase (b:=val==0) (λhz=>?_) λhz=>?_
       ·rw[hz] at hpl
        apply no hz
        exact next x _ _ _ _ _ _ _ _ (hsc ▸ .head _) hpl
       ·rw[hz] at hpl
        apply yes hz
        exact next y _ _ _ _ _ _ _ _ (hsc ▸ .tail _ (.head _)) hpl
   ·clear M hb14 hk0 hv
    rintro ρ G ⟨a,m,b,j3,j4,j9,j10,j11,j12,j13,j14,rfl,a0,a1,M,hb,hk,hpl⟩
    apply ghost_i
    ·exact .frzVar (n:=7) rfl M.gt.1
    refine (?_:Q (resL m) _)
    refine rwI (show resL m=v from Option.some.inj hpl) ?_
    exact h _
theorem listing_ok (n:Nat){H:AHeap} {ly P E}{Q:AV→AHeap→Prop}(hB:BodyAt H ly P E)(h:Q (.tup [partsV (rowsOf P),endsV E]) H):Cn tabP (n+1) 37 [bodyV ly] H Q:=by
 refine enter rfl rfl ?_
 intro ra hra
 have hB':∀ L,BodyAt (upd H ra (.list L)) ly P E:=λL=>hB.ext (Ext.new hra)
 refine forL_mapE (l:=[0,1,2,3]) (λi=>AV.ref (ly.b i)) (λl ρ H'=>(∀ i∈l,0≤i∧i < 4)∧Ex3 λdn j2 j3=>And3 (dn++l=[0,1,2,3]) (ρ=[some (bodyV ly),some (.ref ra),j2,j3]) (H'=upd H ra (.list (dn.map λi=>rowsV (rowsOf P i))))) rfl ⟨by decide,[],_,_,rfl,rfl,rfl⟩ ?_ ?_
 ·rintro i l ρ H' K K1 K2 K3 ⟨hl,dn,j2,j3,hdn,rfl,rfl⟩
  obtain⟨i0,i1⟩:=hl i (.head _)
  have hlen:dn.length≤4:=by have:=congrArg List.length hdn;simp at this;lia
  have est:∀ L,attrOf (upd H ra (.list L)) 1 1 (.ref (ly.b i))=some (.lst (stepsV (P i))):=λL=>blk_attr 1 (hB' L i i0 i1).1 (hB' L i i0 i1).2
  refine And.intro ⟨ra,_,rfl,upd_self ..⟩ ?_
  apply ok_mk (est _)
  refine compL_map (λp:Nat×Row=>stepV p.1 p.2) (λl2 G Q'=>G=upd H ra (.list (dn.map λi=>rowsV (rowsOf P i)))∧Q' (l2.map λp=>rowV p.2) G) ?_ ?_ (P i) _ _ ⟨rfl,?_⟩
  ·rintro x0 l2 G Q' K' hk ⟨rfl,hq⟩
   obtain⟨a,r⟩:=x0
   exact hk _ _ trivial ⟨rfl,hq⟩
  ·rintro G Q' ⟨rfl,hq⟩;exact hq
  ·refine app_j (upd_self ..) (by refine rwI (List.length_map ..) ?_;lia) ?_
   refine K1 _ _ trivial ⟨λj hj=>hl j (.tail _ hj),dn++[i],_,_,by (refine rwS hdn ?_;refine rwI (List.append_assoc ..) ?_);rfl,rfl,?_⟩
   (refine rwI (upd_upd ..) ?_;refine rwI List.map_append ?_;refine rwI List.map_singleton ?_;rewrite [rowsV,rowsOf];refine rwI List.map_map ?_);rfl
 ·rintro ρ H' ⟨_,dn,j2,j3,hdn,rfl,rfl⟩
  have hdn:dn=[0,1,2,3]:=by simpa using hdn
  subst hdn
  apply ghost_i
  ·exact .frzVar (n:=1) rfl (upd_self ..)
  refine rwI (del_upd_none hra) ?_
  refine compL_mapE (l:=[0,1,2,3]) (λi=>AV.ref (ly.b i)) (λl2 G Q'=>And3 ((∀ i∈l2,0≤i∧i < 4)) (G=H) (Q' (l2.map λi=>endR (E i)) G)) rfl ⟨by decide,rfl,?_⟩ ?_ ?_
  rotate_left
  ·rintro i l2 G Q' K' hk ⟨hl,rfl,hq⟩
   obtain⟨i0,i1⟩:=hl i (.head _)
   have een:attrOf G 1 2 (.ref (ly.b i))=some (endV (ly.e i) (E i)):=blk_attr 2 (hB i i0 i1).1 (hB i i0 i1).2
   apply ok_mk een
   apply ok_mk een
   apply ok_mk een
   exact hk _ _ trivial ⟨λj hj=>hl j (.tail _ hj),rfl,hq⟩
  ·rintro G Q' ⟨_,rfl,hq⟩;exact hq
  ·exact h
mutual
theorem veq_refl:∀ (v:AV)(n:Nat),plainD n v=true→veq v v=true:=@λy_1=>@λy_2=>@λy_3=>match @y_1,@y_2,@y_3 with
 |.none,x_1,x_2=>rfl
 |.bool b,x_1,x_2=>beq_self_eq_true b
 |.int i,x_1,x_2=>beq_self_eq_true i
 |.str s,x_1,x_2=>beq_self_eq_true s
 |.tup xs,0,h=>nomatch h
 |.tup xs,n+1,h=>veqs_refl xs n h
 |.lst xs,0,h=>nomatch h
 |.lst xs,n+1,h=>veqs_refl xs n h
 |.obj ..,0,h=>nomatch h
 |.obj ..,n+1,h=>nomatch h
 |.ref x_1,0,h=>nomatch h
 |.ref x_1,n+1,h=>nomatch h
theorem veqs_refl:∀ (xs:List AV)(n:Nat),xs.all (plainD n)=true→veqs xs xs=true:=@λy_1=>@λy_2=>@λy_3=>match @y_1,@y_2,@y_3 with
 |[],x_1,x_2=>rfl
 |x::xs,n,h=>by
  rw[List.all_cons,Bool.and_eq_true] at h
  exact Bool.and_eq_true_iff.mpr ⟨veq_refl x n h.1,veqs_refl xs n h.2⟩
end
theorem plain_mono:∀ (n:Nat)(v:AV),plainD n v=true→plainD (n+1) v=true:=@λy_1=>@λy_2=>@λy_3=>match @y_1,@y_2,@y_3 with
 |x_1,.none,x_2=>rfl
 |x_1,.bool b,x_2=>rfl
 |x_1,.int i,x_2=>rfl
 |x_1,.str s,x_2=>rfl
 |0,.tup xs,h=>nomatch h
 |n+1,.tup xs,h=>List.all_eq_true.mpr λx hx=>plain_mono n x (List.all_eq_true.mp h x hx)
 |0,.lst xs,h=>nomatch h
 |n+1,.lst xs,h=>List.all_eq_true.mpr λx hx=>plain_mono n x (List.all_eq_true.mp h x hx)
 |0,.obj ..,h=>nomatch h
 |n+1,.obj ..,h=>nomatch h
 |0,.ref x_1,h=>nomatch h
 |n+1,.ref x_1,h=>nomatch h
theorem plain_le {n k:Nat}{v:AV}(h:plainD n v=true)(hk:n≤k):plainD k v=true:=by
 induction hk with
 |refl=>exact h
 |step _ ih=>exact plain_mono _ _ ih
theorem plain_opd (o:Opd):plainD 1 (opdV o)=true:=by cases o<;>rfl
theorem all_map {α:Type}{f:α→AV}{n:Nat}{l:List α}(h:∀ x,plainD n (f x)=true):(l.map f).all (plainD n)=true:=List.all_eq_true.mpr λx hx=>by
 obtain⟨y,_,rfl⟩:=List.mem_map.mp hx;exact h y
theorem plain_args (l:List Opd):plainD 2 (argsV l)=true:=all_map plain_opd
set_option tactic.hygienic true in
theorem plain_more (r:Row):plainD 2 r.more=true:=by cases r<;>first|rfl|(rename_i p;cases p<;>rfl)
theorem plain_tup5 {s:String}{d:Int}{a m:AV}{f:Bool}(ha:plainD 2 a=true)(hm:plainD 2 m=true):plainD 3 (.tup [.str s,.int d,a,m,.bool f])=true:=by
 refine (?_:(true&&(true&&(plainD 2 a&&(plainD 2 m&&(true&&true)))))=true)
 (refine rwI ha ?_;refine rwI hm ?_);rfl
theorem plain_row (r:Row):plainD 3 (rowV r)=true:=plain_tup5 (plain_args _) (plain_more r)
theorem plain_rows (l:List Row):plainD 4 (rowsV l)=true:=all_map plain_row
theorem plain_parts (P:Int→List Row):plainD 5 (partsV P)=true:=by
 refine (?_:(plainD 4 (rowsV (P 0))&&(plainD 4 (rowsV (P 1))&&(plainD 4 (rowsV (P 2))&&(plainD 4 (rowsV (P 3))&&true))))=true)
 (refine rwI (plain_rows ..) ?_;refine rwI (plain_rows ..) ?_;refine rwI (plain_rows ..) ?_;refine rwI (plain_rows ..) ?_);rfl
theorem plain_endR (x:End):plainD 3 (endR x)=true:=by
 cases x<;>rfl
theorem plain_ends (E:Ens):plainD 5 (endsV E)=true:=by
 have:∀ x:End,plainD 4 (endR x)=true:=λx=>plain_mono _ _ (plain_endR x)
 refine (?_:(plainD 4 (endR (E 0))&&(plainD 4 (endR (E 1))&&(plainD 4 (endR (E 2))&&(plainD 4 (endR (E 3))&&true))))=true)
 (refine rwI (this ..) ?_;refine rwI (this ..) ?_;refine rwI (this ..) ?_;refine rwI (this ..) ?_);rfl
inductive Sub:List Row→List Row→Prop
 |nil:Sub [] []
 |keep {l w ls ws}:l=w∨l=w.drop→Sub ls ws→Sub (l::ls) (w::ws)
 |skip {ls w ws}:Sub ls ws→Sub ls (w::ws)
theorem Sub.none:∀ (ws:List Row),Sub [] ws:=@λy_1=>match @y_1 with
 |[]=>.nil
 |x_1::ws=>.skip (Sub.none ws)
theorem Sub.tail {l:Row}{ls ws:List Row}(h:Sub (l::ls) ws):Sub ls ws:=by
 generalize he:l::ls=k at h
 induction h with
 |nil=>exact nomatch he
 |keep _ h _=>cases he;exact .skip h
 |skip _ ih=>exact .skip (ih he)
noncomputable def mtB (l w:Row):Bool:=veq (rowV w) (rowV l)||veq (.tup [.str "call",.int (-1),argsV w.args,w.more,.bool w.firm]) (rowV l)
theorem mtB_of {l w:Row}(h:l=w∨l=w.drop):mtB l w=true∧(l.op==w.op)=true:=by
 rcases h with rfl|rfl
 ·exact⟨Bool.or_eq_true_iff.mpr (.inl (veq_refl _ _ (plain_row l))),beq_self_eq_true _⟩
 ·cases w with
  |call d a p=>exact⟨Bool.or_eq_true_iff.mpr (.inr (veq_refl _ _ (plain_row (.call (-1) a p)))),rfl⟩
  |_=>exact⟨Bool.or_eq_true_iff.mpr (.inl (veq_refl _ _ (plain_row _))),beq_self_eq_true _⟩
theorem skip_sub {x w:Row}{ls l:List Row}(hsub:Sub (x::ls) (w::l))(hno:mtB x w=false∨(x.op==w.op)=false):Sub (x::ls) l:=by
 generalize he:x::ls=k at hsub ⊢
 cases hsub with
 |keep hk _=>
  cases he
  obtain⟨a,b⟩:=mtB_of hk
  rcases hno with q|q
  ·rw[a] at q;exact absurd q (by decide)
  ·rw[b] at q;exact absurd q (by decide)
 |skip h=>exact h
theorem next_sub {x w:Row}{ls l:List Row}(hsub:Sub (x::ls) (w::l)):Sub ls l:=by
 generalize he:x::ls=k at hsub
 cases hsub with
 |keep _ h=>cases he;exact h
 |skip h=>subst he;exact h.tail
theorem in_two {H:AHeap}(x w:Row):opCm H .isin (rowV x) (.lst [rowV w,.tup [.str "call",.int (-1),argsV w.args,w.more,.bool w.firm]])=some (mtB x w):=by
 have p1:plainD 20 (rowV x)=true:=plain_le (plain_row x) (by decide)
 have p2:plainD 20 (rowV w)=true:=plain_le (plain_row w) (by decide)
 have p3:plainD 20 (.tup [.str "call",.int (-1),argsV w.args,w.more,.bool w.firm])=true:=plain_le (plain_tup5 (plain_args _) (plain_more w)) (by decide)
 refine (?_:(if (plainD 20 (rowV x)&&(plainD 20 (rowV w)&&(plainD 20 (.tup [.str "call",.int (-1),argsV w.args,w.more,.bool w.firm])&&true)))=true then some (veq (rowV w) (rowV x)||(veq (.tup [.str "call",.int (-1),argsV w.args,w.more,.bool w.firm]) (rowV x)||false)) else none)=_)
 (refine rwI p1 ?_;refine rwI p2 ?_;refine rwI p3 ?_;refine rwI (Bool.or_false ..) ?_);rfl
theorem is_less_ok (n:Nat){H:AHeap}{left was:List Row}{Q:AV→AHeap→Prop}(hs:Sub left was)(h:Q (.bool true) H):Cn tabP (n+1) 43 [rowsV left,rowsV was] H Q:=by
 refine enter rfl rfl ?_
 refine forL_map rowV (λl ρ H'=>H'=H∧Ex7 λ(p:Nat) v1 j3 j4 j5 j6 j7=>And3 (ρ=[some (rowsV left),v1,some (.int (p:Int)),j3,j4,j5,j6,j7]) (p≤left.length) (Sub (left.drop p) l)) ?_ ?_ was _ _ ⟨rfl,0,_,_,_,_,_,_,rfl,Nat.zero_le _,hs⟩
 ·rintro w l ρ H' K K1 K2 K3 ⟨rfl,p,v1,j3,j4,j5,j6,j7,rfl,hp,hsub⟩
  have fin:=λp v1 j3 j4 j5 j6 j7 hp hs=>K1 _ H' trivial ⟨rfl,p,v1,j3,j4,j5,j6,j7,rfl,hp,hs⟩
  clear K1 K2 K3
  have hdec:decide ((p:Int) < ((left.map rowV).length:Int))=decide (p < left.length):=by (refine rwI (List.length_map ..) ?_;refine rwI (propext Bool.eq_iff_iff) ?_;refine rwI (propext decide_eq_true_iff) ?_;refine rwI (propext decide_eq_true_iff) ?_);exact Int.ofNat_lt
  refine bcase (b:=decide (p < left.length)) (λhlt=>?_) λhlt=>?_
  ·
   apply no (hdec.trans hlt)
   have hge:left.length≤p:=Nat.le_of_not_lt (of_decide_eq_false hlt)
   refine fin p _ _ _ _ _ _ hp ?_
   refine rwI (List.drop_eq_nil_of_le hge) ?_;exact Sub.none _
  ·
   apply yes (hdec.trans hlt)
   have hlt:=of_decide_eq_true hlt
   obtain⟨x,hx⟩:∃ x,left[p]? = some x:=⟨_,List.getElem?_eq_getElem hlt⟩
   have hdrop:left.drop p=x::left.drop (p+1):=by
    obtain⟨_,e⟩:=List.getElem?_eq_some_iff.mp hx
    refine rwS e ?_;exact List.drop_eq_getElem_cons hlt
   rw[hdrop] at hsub
   have gx:getIx H' (rowsV left) (.int (p:Int))=some (rowV x):=by
    refine (?_:atIx (left.map rowV) (p:Int)=_)
    (rewrite [atIx];refine rwI (if_pos (Int.natCast_nonneg p)) ?_;refine rwI (Int.toNat_natCast ..) ?_;refine rwI (List.getElem?_map) ?_;refine rwI hx ?_);rfl
   apply ok_mk gx
   apply ok_mk (in_two x w)
   cases hm:mtB x w with
   |false=>
    exact (fin p _ _ _ _ _ _ hp (hdrop ▸ skip_sub hsub (.inl hm)))
   |true=>
    apply ok_mk gx
    refine bcase (b:=x.op==w.op) (λho=>?_) λho=>?_
    ·exact no ho (fin p _ _ _ _ _ _ hp (hdrop ▸ skip_sub hsub (.inr ho)))
    ·exact yes ho (fin (p+1) _ _ _ _ _ _ hlt (next_sub hsub))
 ·rintro ρ H' ⟨rfl,p,v1,j3,j4,j5,j6,j7,rfl,hp,hsub⟩
  have:left.drop p=[]:=by
   generalize left.drop p=k at hsub
   cases hsub;rfl
  have hpl:p=left.length:=Nat.le_antisymm hp (List.drop_eq_nil_iff.mp this)
  have e:((p:Int)==((left.map rowV).length:Int))=true:=by (refine rwI hpl ?_;refine rwI (List.length_map ..) ?_);exact beq_self_eq_true _
  refine (?_:Q (.bool ((p:Int)==((left.map rowV).length:Int))) H')
  refine rwI e ?_;exact h
theorem nodup_len {α:Type} [BEq α] [LawfulBEq α]:∀ {l t:List α},l.Nodup→(∀ x∈l,x∈t)→l.length≤t.length:=@λy_1=>@λy_2=>@λy_3=>@λy_4=>match @y_1,@y_2,@y_3,@y_4 with
 |[],x_1,x_2,x_3=>Nat.zero_le _
 |x::l,t,nd,h=>by
  obtain⟨h1,h2⟩:=List.nodup_cons.mp nd
  have hx:=h x (.head _)
  have:=nodup_len (l:=l) (t:=t.erase x) h2 λy hy=>(List.mem_erase_of_ne (by rintro rfl;exact h1 hy)).mpr (h y (.tail _ hy))
  rw[List.length_erase_of_mem hx] at this
  have:0 < t.length:=List.length_pos_of_mem hx
  exact Nat.le_trans (Nat.succ_le_succ ‹l.length≤t.length - 1›) (Nat.le_of_eq (Nat.sub_add_cancel this))
noncomputable def KeyD (H:AHeap) (a:Nat) (S:ISet):Prop:=∃ es,H a=some (.dict es)∧(es.map (·.1)).Nodup∧∀ x,x∈es.map (·.1)↔S x=true
theorem look_mem:∀ (es:List (Int×AV))(x:Int),(es.lookup x).isSome=true↔x∈es.map (·.1):=@λy_1=>@λy_2=>match @y_1,@y_2 with
 |[],x=>by simp
 |(k,v)::es,x=>by
  refine rwI List.lookup_cons ?_
  by_cases e:x=k
  ·subst e;simp
  ·have:(x==k)=false:=by simpa using e
   refine rwI this ?_
   simp only[List.map_cons,List.mem_cons,e,false_or]
   exact look_mem es x
theorem putE_keys:∀ (es:List (Int×AV))(i:Int)(v:AV),(putE es i v).map (·.1)=if i∈es.map (·.1) then es.map (·.1) else es.map (·.1)++[i]:=@λy_1=>@λy_2=>@λy_3=>match @y_1,@y_2,@y_3 with
 |[],i,v=>(if_neg List.not_mem_nil).symm
 |(k,w)::es,i,v=>by
  refine rwI putE_c ?_
  by_cases e:k=i
  ·refine rwI (if_pos e) ?_;subst e;simp
  ·refine rwI (if_neg e) ?_
   have ih:=putE_keys es i v
   simp only[List.map_cons,ih,List.mem_cons]
   have e':¬ i=k:=λq=>e q.symm
   by_cases h:i∈es.map (·.1)
   ·(refine rwI (if_pos h) ?_;refine rwI (if_pos (.inr h)) ?_;rfl)
   ·(refine rwI (if_neg h) ?_;refine rwI (if_neg (λq=>q.elim e' h)) ?_);rfl
theorem KeyD.len {H:AHeap}{a:Nat}{S:ISet}(hb:∀ x,S x=true→0≤x∧x < 32){es:List (Int×AV)}(nd:(es.map (·.1)).Nodup)(hk:∀ x,x∈es.map (·.1)↔S x=true):es.length≤32:=by
 have:=nodup_len (t:=(List.range 32).map Int.ofNat) nd λx hx=>by
  obtain⟨h0,h1⟩:=hb x ((hk x).mp hx)
  exact List.mem_map.mpr ⟨x.toNat,List.mem_range.mpr (by lia),Int.toNat_of_nonneg h0⟩
 simpa using this
set_option tactic.hygienic true in
theorem KeyD.put {H:AHeap}{a:Nat}{S:ISet}{i:Int}{v:AV}{Q:AHeap→Prop}(h:KeyD H a S)(hb:∀ x,S x=true→0≤x∧x < 32)(hq:∀ es,KeyD (upd H a (.dict es)) a (addS S i)→Q (upd H a (.dict es))):opSetI H (.ref a) (.int i) v Q:=by
 obtain⟨es,h1,nd,hk⟩:=h
 have:=KeyD.len (H:=H) (a:=a) hb nd hk
 refine opSetI_dict h1 (by lia) (hq _ ⟨_,upd_self ..,?_,λx=>?_⟩)
 ·refine rwI (putE_keys ..) ?_
  split
  ·exact nd
  ·rename_i hi
   refine rwI (propext List.nodup_append) ?_
   exact⟨nd,by simp,λx hx y hy e=>by simp at hy;subst hy;subst e;exact hi hx⟩
 ·refine rwI (putE_keys ..) ?_
  simp only[addS,Bool.or_eq_true,beq_iff_eq]
  split
  ·rename_i hi
   rw[hk]
   exact⟨.inl,λq=>q.elim id λe=>by subst e;exact (hk x).mp hi⟩
  ·(refine rwI (propext List.mem_append) ?_;rewrite [hk]);simp
theorem KeyD.keepO {H:AHeap}{a b:Nat}{S:ISet}(h:KeyD H a S)(n:a≠b)(o:AObj):KeyD (upd H b o) a S:=by
 obtain⟨es,h1,r⟩:=h
 exact⟨es,by refine rwI (upd_ne _ n) ?_;exact h1,r⟩
theorem KeyD.isin {H:AHeap}{a:Nat}{S:ISet}(h:KeyD H a S)(x:Int):opCm H .isin (.int x) (.ref a)=some (S x):=by
 obtain⟨es,h1,_,hk⟩:=h
 refine rwI (opIn_dict h1) ?_
 congr 1
 (refine rwI (propext Bool.eq_iff_iff) ?_;rewrite [look_mem,hk];rfl)
theorem KeyD.notin {H:AHeap}{a:Nat}{S:ISet}(h:KeyD H a S)(x:Int):opCm H .notin (.int x) (.ref a)=some (!(S x)):=by
 have:=h.isin x
 refine (?_:(opIn H _ _).map _=_)
 have h2:opIn H (.int x) (.ref a)=some (S x):=this
 refine rwI h2 ?_;rfl
noncomputable def opdN:Opd→Int:=@λy_1=>match @y_1 with
 |.r n=>n
 |.k v=>v
noncomputable def ownSt (r:Row) (place:Int):Bool:=match r with
 |.store a _ w f=>place==0&&(!f&&own a w)
 |_=>false
structure NS where
 nm:ISet
 st:ISet
noncomputable def swO (r:Row) (s:NS) (p:Int×Opd):NS:=match ownSt r p.1 with
 |true=>⟨s.nm,addS s.st (opdN p.2)⟩
 |false=>match p.2 with
  |.r x=>⟨addS s.nm x,s.st⟩
  |.k _=>s
noncomputable def swR (s:NS) (r:Row):NS:=(en 0 r.args).foldl (swO r) s
noncomputable def swE (s:NS) (o:Opd):NS:=⟨addS s.nm (opdN o),s.st⟩
noncomputable def swB (P:Int→List Row) (E:Ens) (s:NS) (i:Int):NS:=(E i).args.foldl swE ((P i).foldl swR s)
noncomputable def swA (P:Int→List Row) (E:Ens):NS:=([0,1,2,3]:List Int).foldl (swB P E) ⟨λx_=>false,λx_=>false⟩
noncomputable def vainB (st:ISet):Row→Bool:=@λy_1=>match @y_1 with
 |.copy .. | .name _|.bin .add .. | .bin .xor .. | .bin .mul .. | .bin .ltu ..=>true
 |.slot d x_1=>!(st d)
 |.load x_1 a w x_2 f=>!f&&own a w
 |x_1=>false
noncomputable def Bd (S:ISet):Prop:=∀ x,S x=true→0≤x∧x < 32
theorem Bd.add {S:ISet}(h:Bd S){i:Int}(h0:0≤i)(h1:i < 32):Bd (addS S i):=λx hx=>by
 simp only[addS,Bool.or_eq_true,beq_iff_eq] at hx
 rcases hx with hx|rfl
 ·exact h x hx
 ·exact⟨h0,h1⟩
theorem own_r {o:Opd}{w:Int}(h:own o w=true):∃ x,o=.r x∧2≤x∧x < 6:=by
 cases o with
 |r x=>
  simp only[own,Bool.and_eq_true,decide_eq_true_eq] at h
  exact⟨x,rfl,h.1,h.2.1⟩
 |k v=>exact (Bool.false_ne_true h).elim
structure DS (H:AHeap)(nd sd:Nat)(s:NS):Prop where
 kn:KeyD H nd s.nm
 ks:KeyD H sd s.st
 ne:nd≠sd
 bn:Bd s.nm
 bs:Bd s.st
section
variable {H:AHeap}{nd sd:Nat}{s:NS}
theorem DS.putN (d:DS H nd sd s){i:Int}{v:AV}{Q:AHeap→Prop}(h0:0≤i)(h1:i < 32)(hq:∀ H',DS H' nd sd ⟨addS s.nm i,s.st⟩→Q H'):opSetI H (.ref nd) (.int i) v Q:=
 d.kn.put d.bn λes h=>hq _ ⟨h,d.ks.keepO (Ne.symm d.ne) _,d.ne,d.bn.add h0 h1,d.bs⟩
theorem DS.putS (d:DS H nd sd s){i:Int}{v:AV}{Q:AHeap→Prop}(h0:0≤i)(h1:i < 32)(hq:∀ H',DS H' nd sd ⟨s.nm,addS s.st i⟩→Q H'):opSetI H (.ref sd) (.int i) v Q:=
 d.ks.put d.bs λes h=>hq _ ⟨d.kn.keepO d.ne _,h,d.ne,d.bn,d.bs.add h0 h1⟩
end
theorem en_mem {o:Opd}{p:Int}:∀ {n:Int}{l:List Opd},(p,o)∈en n l→o∈l:=@λy_1=>@λy_2=>@λy_3=>match @y_1,@y_2,@y_3 with
 |x_1,[],h=>by cases h
 |n,a::l,h=>by
  rcases List.mem_cons.mp h with e|h
  ·cases e;exact .head _
  ·exact .tail _ (en_mem h)
theorem sortI_mem {x:Int}:∀ {l:List Int},x∈sortI l→x∈l:=by
 have ins:∀ {i:Int} {l:List Int},x∈insertI i l→x=i∨x∈l:=by
  intro i l
  induction l with
  |nil=>intro h;exact .inl (List.mem_singleton.mp h)
  |cons j l ih=>
   intro h
   replace h:x∈(if i≤j then i::j::l else j::insertI i l):=h
   split at h
   ·rcases List.mem_cons.mp h with h|h
    ·exact .inl h
    ·exact .inr h
   ·rcases List.mem_cons.mp h with h|h
    ·exact .inr (h ▸ .head _)
    ·exact (ih h).imp id λh=>.tail _ h
 intro l
 induction l with
 |nil=>intro h;exact h
 |cons i l ih=>
  intro h
  rcases ins h with rfl|h
  ·exact .head _
  ·exact .tail _ (ih h)
theorem op_slot {r:Row}(h:(r.op == "slot")=true):∃ d s,r=.slot d s:=by
 cases r with
 |slot d s=>exact⟨d,s,rfl⟩
 |bin o _ _ _=>cases o<;>exact (Bool.false_ne_true h).elim
 |_=>exact (Bool.false_ne_true h).elim
theorem op_store {r:Row}(h:(r.op == "store")=true):∃ a v w f,r=.store a v w f:=by
 cases r with
 |store a v w f=>exact⟨a,v,w,f,rfl⟩
 |bin o _ _ _=>cases o<;>exact (Bool.false_ne_true h).elim
 |_=>exact (Bool.false_ne_true h).elim
theorem own_no {r:Row}{pl:Int}(h:(r.op == "store")=false):ownSt r pl=false:=by
 cases r with
 |store a v w f=>exact (Bool.false_ne_true h.symm).elim
 |_=>rfl
set_option maxHeartbeats 4000000 in
theorem sw_arm {C:Oracle}{G:AHeap}{nd sd:Nat}{s:NS}{K:Fl→AEnv→AHeap→Prop}{r:Row}{pl:Int}{o:Opd}{v0 v1 v4 v5:Option AV}(D:DS G nd sd s)(hro:∀ x,o=.r x→0≤x∧x < 21)
  (hc:∀ a w Q,Q (.bool (own a w)) G→∀ l,C 40 [argsV (a::l),.int w] G Q) (hmo:(pl,o)∈en 0 r.args)
  (k:∀ G' v6,DS G' nd sd (swO r s (pl,o))→K .nx [v0,v1,some (.ref nd),some (.ref sd),v4,v5,v6,some (.str r.op),some (.int r.dst),some (argsV r.args),some r.more,some (.bool r.firm),none,some (.int pl),none] G') :
  wB C [.iff (.and (.cmp .eq (.v 7) (.str "store")) (.and (.cmp .eq (.v 13) (.int 0)) (.and (.not (.v 11)) (.call 40 [.v 9,.v 10])))) [.asgI (.v 3) (.idx (.v 6) (.int 1)) (.bool true)] [.iff (.cmp .eq (.idx (.v 6) (.int 0)) (.str "r")) [.asgI (.v 2) (.idx (.v 6) (.int 1)) (.bool true)] []]]
   [v0,v1,some (.ref nd),some (.ref sd),v4,v5,some (opdV o),some (.str r.op),some (.int r.dst),some (argsV r.args),some r.more,some (.bool r.firm),none,some (.int pl),none] G K:=by
 have armN:ownSt r pl=false→wB C [.iff (.cmp .eq (.idx (.v 6) (.int 0)) (.str "r")) [.asgI (.v 2) (.idx (.v 6) (.int 1)) (.bool true)] []] [v0,v1,some (.ref nd),some (.ref sd),v4,v5,some (opdV o),some (.str r.op),some (.int r.dst),some (argsV r.args),some r.more,some (.bool r.firm),none,some (.int pl),none] G
   λf ρ H=>match f with|.nx=>wB C [] ρ H K|f=>K f ρ H:=by
  intro ho
  cases o with
  |k v=>
   have e:swO r s (pl,.k v)=s:=by simp only[swO,ho]
   rw[e] at k
   exact k G _ D
  |r x=>
   have e:swO r s (pl,.r x)=⟨addS s.nm x,s.st⟩:=by simp only[swO,ho]
   rw[e] at k
   exact D.putN (hro x rfl).1 (Int.lt_trans (hro x rfl).2 (by decide)) λG' D'=>k G' _ D'
 refine bcase (b:=r.op == "store") (λhb=>no hb (no hb (armN (own_no hb)))) λhb=>?_
 apply yes hb
 obtain⟨a,v,w,f,e⟩:=op_store hb
 have hos:ownSt r pl=(pl==0&&(!r.firm&&own a w)):=by refine rwI e ?_;rfl
 refine bcase (b:=pl==0) (λhp0=>no hp0 (no hp0 (armN (by (refine rwI hos ?_;refine rwI hp0 ?_);rfl)))) λhp0=>?_
 apply yes hp0
 refine bcase (b:=r.firm) (λhf=>?_) λhf=>no (nott hf) (no (nott hf) (armN (by (refine rwI hos ?_;refine rwI hp0 ?_;refine rwI hf ?_);rfl)))
 apply yes (notf hf)
 refine (by refine rwI e ?_;exact hc a w _ · [v]:∀ {Q:AV→AHeap→Prop},Q (.bool (own a w)) G→C 40 [argsV r.args,r.more] G Q) ?_
 refine bcase (b:=own a w) (λho=>no ho (armN (by (refine rwI hos ?_;refine rwI hp0 ?_;refine rwI hf ?_;refine rwI ho ?_);rfl))) λho=>?_
 apply yes ho
 obtain⟨x,hx,x0,x1⟩:=own_r ho
 have eo:o=.r x:=by
  have hmo:(pl,o)∈[((0:Int),a),(1,v)]:=by rw[e] at hmo;exact hmo
  rw[eq_of_beq hp0] at hmo
  exact (List.mem_cons.mp hmo).elim (λh=>(congrArg Prod.snd h).trans hx) λh=>nomatch congrArg Prod.fst (mem1 h)
 have e2:swO r s (pl,o)=⟨s.nm,addS s.st x⟩:=by simp only[swO,hos,hp0,hf,ho,eo];rfl
 rw[e2] at k
 apply ok_mk (show getIx G (opdV o) (.int 1)=some (.int x) by refine rwI eo ?_;rfl)
 exact D.putS (Int.le_trans (by decide) x0) (Int.lt_trans x1 (by decide)) λG' D'=>k G' _ D'
set_option maxHeartbeats 4000000 in
theorem sw_rest {C:Oracle}{G:AHeap}{nd sd:Nat}{nm st:ISet}{K:Fl→AEnv→AHeap→Prop}{r:Row}{v0 v1 v4 v5 v6 v12 v13:Option AV}(D:DS G nd sd ⟨nm,st⟩)
  (hc:∀ a w Q,Q (.bool (own a w)) G→∀ l,C 40 [argsV (a::l),.int w] G Q) (hv:vainB st r=true→nm r.dst=true)
  (k:∀ v12,K .nx [v0,v1,some (.ref nd),some (.ref sd),v4,v5,v6,some (.str r.op),some (.int r.dst),some (argsV r.args),some r.more,some (.bool r.firm),v12,v13,none] G) :
  wB C [.asg 12 (.or (.cmp .isin (.v 7) (.tup [.str "copy",.str "add",.str "xor",.str "mul",.str "ltu",.str "name"])) (.and (.cmp .eq (.v 7) (.str "slot")) (.cmp .notin (.v 8) (.v 3)))),
    .iff (.and (.cmp .eq (.v 7) (.str "load")) (.and (.not (.v 11)) (.call 40 [.v 9,.idx (.v 10) (.int 0)]))) [.asg 12 (.bool true)] [],.iff (.and (.v 12) (.cmp .notin (.v 8) (.v 2))) [.ret (.bool false)] []]
   [v0,v1,some (.ref nd),some (.ref sd),v4,v5,v6,some (.str r.op),some (.int r.dst),some (argsV r.args),some r.more,some (.bool r.firm),v12,v13,none] G K:=by
 have fin:∀ b:Bool,(b=true→vainB st r=true)→wB C [.iff (.and (.v 12) (.cmp .notin (.v 8) (.v 2))) [.ret (.bool false)] []]
   [v0,v1,some (.ref nd),some (.ref sd),v4,v5,v6,some (.str r.op),some (.int r.dst),some (argsV r.args),some r.more,some (.bool r.firm),some (.bool b),v13,none] G K:=by
  intro b hb
  cases b with
  |false=>exact k _
  |true=>
   apply ok_mk (D.kn.notin r.dst)
   exact no (nott (hv (hb rfl))) (k _)
 cases r with
 |slot d s'=>
  apply ok_mk (D.ks.notin d)
  exact fin _ λhb=>hb
 |bin bo d x y=>cases bo<;>first|exact fin true λx_=>rfl|exact fin false λe=>by exact (Bool.false_ne_true e).elim
 |load d a w sx f=>
  cases f with
  |true=>exact fin false λe=>by exact (Bool.false_ne_true e).elim
  |false=>
   refine hc a w _ ?_ []
   rcases Bool.eq_false_or_eq_true (own a w) with ho|ho
   ·apply yes ho
    exact fin true λx_=>ho
   ·apply no ho
    exact fin false λe=>by exact (Bool.false_ne_true e).elim
 |store a v w f=>exact fin false λe=>by exact (Bool.false_ne_true e).elim
 |copy d a=>exact fin true λx_=>rfl
 |move a b f=>exact fin false λe=>by exact (Bool.false_ne_true e).elim
 |call d a p=>exact fin false λe=>by exact (Bool.false_ne_true e).elim
 |name d=>exact fin true λx_=>rfl
theorem addS_mem {m:ISet}{i x:Int}(h:m x=true):addS m i x=true:=by simp only[addS,h,Bool.true_or]
theorem addS_i {m:ISet}{i:Int}:addS m i i=true:=by simp only[addS,beq_self_eq_true,Bool.or_true]
set_option maxHeartbeats 4000000 in
theorem is_swept_ok (n:Nat){H:AHeap}{P:Int→List Row}{E:Ens}{Q:AV→AHeap→Prop}(hP:∀ i,0≤i→i < 4→∀ r∈P i,RegsOk r.args∧(∀ d s,r=.slot d s→0≤s∧s < 4))(hE:∀ i,RegsOk (E i).args)
  (h1:∀ i,0≤i→i < 4→∀ r∈P i,vainB (swA P E).st r=true→(swA P E).nm r.dst=true)
  (h2:∀ x,(swA P E).st x=true→(swA P E).nm x=true∨∃ i s,0≤i∧i < 4∧.slot 1 s∈P i∧x=2+s) (h:∀ H',Q (.bool true) H'):Cn tabP (n+2) 44 [partsV P,endsV E] H Q:=by
 refine enter rfl rfl ?_
 have hc:∀ (G:AHeap) a w Q,Q (.bool (own a w)) G→∀ l,Cn tabP (n+1) 40 [argsV (a::l),.int w] G Q:=λG a w Q q l=>own_ok n q
 intro nd hnd
 intro sd hsd
 have nns:nd≠sd:=λe=>by rw[← e,upd_self] at hsd;exact nomatch hsd
 refine wB_gen (λG=>DS G nd sd ⟨λx_=>false,λx_=>false⟩)
  ⟨⟨[],by refine rwI (upd_ne _ nns) ?_;exact upd_self ..,.nil,λx=>⟨λh=>(by exact nomatch h),λh=>(by exact (Bool.false_ne_true h).elim)⟩⟩,⟨[],upd_self ..,.nil,λx=>⟨λh=>(by exact nomatch h),λh=>(by exact (Bool.false_ne_true h).elim)⟩⟩,nns,λx hx=>(by exact (Bool.false_ne_true hx).elim),λx hx=>(by exact (Bool.false_ne_true hx).elim)⟩ λG0 D0=>?_
 clear hnd hsd nns
 let Iv:List (Int)→AEnv→AHeap→Prop:=λl ρ G=>(∀ i∈l,0≤i∧i < 4)∧Ex10 λs j4 j5 j6 j7 j8 j9 j10 j11 j13=>And3 (ρ=[some (partsV P),some (endsV E),some (.ref nd),some (.ref sd),j4,j5,j6,j7,j8,j9,j10,j11,none,j13,none]) (DS G nd sd s) (l.foldl (swB P E) s=swA P E)
 refine forL_mapE (l:=[0,1,2,3]) (λi:Int=>AV.tup [.int i,rowsV (P i)]) Iv rfl
  ⟨by decide,_,_,_,_,_,_,_,_,_,_,rfl,D0,rfl⟩ ?_ ?_
 ·clear h1 h2 h D0
  rintro i l ρ G K K1 K2 K3 ⟨hl4,s,j4,j5,j6,j7,j8,j9,j10,j11,j13,rfl,D,hf⟩
  obtain⟨i0,i1⟩:=hl4 i (.head _)
  have fin:=λG s j6 j7 j8 j9 j10 j11 j13 D hf=>K1 _ G trivial ⟨λj hj=>hl4 j (.tail _ hj),s,some (rowsV (P i)),some (.int i),j6,j7,j8,j9,j10,j11,j13,rfl,D,hf⟩
  rw[List.foldl_cons] at hf
  clear K1 K2 K3 hl4
  let Iv:List (Row)→AEnv→AHeap→Prop:=λl2 ρ G=>(∀ r∈l2,RegsOk r.args)∧Ex8 λs2 j6 j7 j8 j9 j10 j11 j13=>And3 (ρ=[some (partsV P),some (endsV E),some (.ref nd),some (.ref sd),some (rowsV (P i)),some (.int i),j6,j7,j8,j9,j10,j11,none,j13,none]) (DS G nd sd s2) (l2.foldl swR s2=(P i).foldl swR s)
  refine forL_map rowV Iv ?_ ?_ (P i) _ _
   ⟨λr hr=>(hP i i0 i1 r hr).1,s,_,_,_,_,_,_,_,rfl,D,rfl⟩
  ·clear fin hf D
   rintro r l2 ρ G K' K1' K2' K3' ⟨hr,s2,j6,j7,j8,j9,j10,j11,j13,rfl,D2,hf2⟩
   have hr0:=hr r (.head _)
   have fin:=λG s3 j6 j13 D hf=>K1' _ G trivial ⟨λq hq=>hr q (.tail _ hq),s3,j6,some (.str r.op),some (.int r.dst),some (argsV r.args),some r.more,some (.bool r.firm),j13,rfl,D,hf⟩
   rw[List.foldl_cons] at hf2
   clear K1' K2' K3' hr
   let Iv:List (Int×Opd)→AEnv→AHeap→Prop:=λl3 ρ G=>(∀ p∈l3,p∈en 0 r.args)∧Ex3 λs3 j6 j13=>And3 (ρ=[some (partsV P),some (endsV E),some (.ref nd),some (.ref sd),some (rowsV (P i)),some (.int i),j6,some (.str r.op),some (.int r.dst),some (argsV r.args),some r.more,some (.bool r.firm),none,j13,none])
     (DS G nd sd s3) (l3.foldl (swO r) s3=swR s2 r)
   refine forL_mapE (l:=en 0 r.args) (λp:Int×Opd=>AV.tup [.int p.1,opdV p.2]) Iv (en_map 0 r.args) ⟨λx_ hp=>hp,s2,_,_,rfl,D2,rfl⟩ ?_ ?_
   ·clear fin hf2 D2
    rintro x0 l3 ρ G K3 K1'' K2'' K3'' ⟨hm,s3,j6,j13,rfl,D3,hf3⟩
    obtain⟨pl,o⟩:=x0
    exact sw_arm D3 (λx e=>hr0 x (e ▸ en_mem (hm _ (.head _)))) (hc _) (hm _ (.head _)) λG' v6 D'=>K1'' _ _ trivial ⟨λp hp=>hm p (.tail _ hp),_,_,_,rfl,D',hf3⟩
   ·rintro ρ G ⟨_,s3,j6,j13,rfl,D3,hf3⟩
    exact fin G s3 _ _ D3 ((show s3=swR s2 r from hf3) ▸ hf2)
  ·rintro ρ G ⟨_,s2,j6,j7,j8,j9,j10,j11,j13,rfl,D2,hf2⟩
   have hf2:s2=(P i).foldl swR s:=hf2
   subst hf2
   apply ok_mk (ends_ix i0 i1)
   let Iv:List (Opd)→AEnv→AHeap→Prop:=λl3 ρ G=>(∀ o∈l3,0≤opdN o∧opdN o < 32)∧Ex2 λs3 j6=>And3 (ρ=[some (partsV P),some (endsV E),some (.ref nd),some (.ref sd),some (rowsV (P i)),some (.int i),j6,j7,j8,j9,j10,j11,none,j13,none]) (DS G nd sd s3) (l3.foldl swE s3=swB P E s i)
   refine forL_map opdV Iv ?_ ?_ (E i).args _ _ ⟨?_,_,_,rfl,D2,rfl⟩
   ·clear fin hf D2
    rintro o l3 ρ G K3 K1'' K2'' K3'' ⟨hm,s3,j6,rfl,D3,hf3⟩
    obtain⟨o0,o1⟩:=hm o (.head _)
    have g1:∀ H,getIx H (opdV o) (.int 1)=some (.int (opdN o)):=λH=>by cases o<;>rfl
    apply ok_mk (g1 _)
    exact D3.putN o0 o1 λG' D'=>K1'' _ _ trivial ⟨λp hp=>hm p (.tail _ hp),_,_,rfl,D',hf3⟩
   ·rintro ρ G ⟨_,s3,j6,rfl,D3,hf3⟩
    exact fin G s3 _ _ _ _ _ _ _ D3 ((show s3=swB P E s i from hf3) ▸ hf)
   ·intro o ho
    have hE:=hE i
    cases he:E i with
    |jump t=>rw[he] at ho;exact nomatch ho
    |branch r a b=>
     rw[he] at ho hE
     cases List.mem_singleton.mp ho
     exact⟨(hE r (.head _)).1,Int.lt_trans (hE r (.head _)).2 (by decide)⟩
    |give r=>
     rw[he] at ho hE
     cases List.mem_singleton.mp ho
     exact⟨(hE r (.head _)).1,Int.lt_trans (hE r (.head _)).2 (by decide)⟩
 ·rintro ρ G ⟨_,s,j4,j5,j6,j7,j8,j9,j10,j11,j13,rfl,D,hf⟩
  have hf:s=swA P E:=hf
  subst hf
  let Iv:List (Int)→AEnv→AHeap→Prop:=λl ρ G=>Ex11 λdn nm j4 j6 j7 j8 j9 j10 j11 j12 j13=>And5 (dn++l=[0,1,2,3]) (ρ=[some (partsV P),some (endsV E),some (.ref nd),some (.ref sd),j4,j5,j6,j7,j8,j9,j10,j11,j12,j13,none]) (DS G nd sd ⟨nm,(swA P E).st⟩)
    (Le (swA P E).nm nm) (∀ i∈dn,∀ s,.slot 1 s∈P i→nm (2+s)=true)
  refine forL_mapE (l:=[0,1,2,3]) (λi:Int=>rowsV (P i)) Iv rfl ⟨[],_,_,_,_,_,_,_,_,_,_,rfl,rfl,D,Le.refl _,λi hi=>(by exact nomatch hi)⟩ ?_ ?_
  ·clear h2 h D
   rintro i l ρ G K K1 K2 K3 ⟨dn,nm,j4,j6,j7,j8,j9,j10,j11,j12,j13,hdn,rfl,D,hle,hsl⟩
   have him:i∈([0,1,2,3]:List Int):=by refine rwS hdn ?_;exact List.mem_append_right _ (.head _)
   have hi4:0≤i∧i < 4:=(by decide:∀ i∈([0,1,2,3]:List Int),0≤i∧i < 4) i him
   have fin:=λG nm j6 j7 j8 j9 j10 j11 j12 j13 D hle hsl=>K1 _ G trivial ⟨dn++[i],nm,some (rowsV (P i)),j6,j7,j8,j9,j10,j11,j12,j13,by (refine rwS hdn ?_;refine rwI (List.append_assoc ..) ?_);rfl,rfl,D,hle,hsl⟩
   clear K1 K2 K3 hdn him
   let Iv:List (Row)→AEnv→AHeap→Prop:=λl2 ρ G=>Ex8 λd2 nm j7 j8 j9 j10 j11 j12=>And6 (d2++l2=P i) (ρ=[some (partsV P),some (endsV E),some (.ref nd),some (.ref sd),some (rowsV (P i)),j5,j6,j7,j8,j9,j10,j11,j12,j13,none]) (DS G nd sd ⟨nm,(swA P E).st⟩)
     (Le (swA P E).nm nm) (∀ i∈dn,∀ s,.slot 1 s∈P i→nm (2+s)=true) (∀ s,.slot 1 s∈d2→nm (2+s)=true)
   refine forL_map rowV Iv ?_ ?_ (P i) _ _ ⟨[],nm,_,_,_,_,_,_,rfl,rfl,D,hle,hsl,λs hs=>(by exact nomatch hs)⟩
   ·clear fin D hle hsl
    rintro r l2 ρ G K' K1' K2' K3' ⟨d2,nm,j7,j8,j9,j10,j11,j12,hd2,rfl,D,hle,hsl,hsl2⟩
    have hrm:r∈P i:=by refine rwS hd2 ?_;exact List.mem_append_right _ (.head _)
    have hv:=h1 i hi4.1 hi4.2 r hrm
    have rest:∀ G nm' j12,DS G nd sd ⟨nm',(swA P E).st⟩→Le (swA P E).nm nm'→(∀ i∈dn,∀ s,.slot 1 s∈P i→nm' (2+s)=true)→(∀ s,.slot 1 s∈d2++[r]→nm' (2+s)=true)→_:=
     λG nm' j12 D hle hsl hsl2=>sw_rest (v12:=j12) D (hc G) (λq=>hle _ (hv q)) λv12=>K1' _ G trivial ⟨d2++[r],nm',_,_,_,_,_,v12,by (refine rwS hd2 ?_;refine rwI (List.append_assoc ..) ?_);rfl,rfl,D,hle,hsl,hsl2⟩
    clear K1' K2' K3' hd2 hv
    have app:∀ {nm':ISet},(∀ s,.slot 1 s∈d2→nm' (2+s)=true)→(∀ s,r=.slot 1 s→nm' (2+s)=true)→∀ s,.slot 1 s∈d2++[r]→nm' (2+s)=true:=λq1 q2 s hs=>by
     rcases List.mem_append.mp hs with hs|hs
     ·exact q1 s hs
     ·exact q2 s (List.mem_singleton.mp hs).symm
    have rest0:(∀ s,r≠.slot 1 s)→_:=λhno=>rest G nm j12 D hle hsl (app hsl2 λs e=>absurd e (hno s))
    clear h1
    refine bcase (b:=r.op == "slot") (λhb=>no hb (no hb (rest0 λs e=>by rw[e] at hb;exact nomatch hb))) λhb=>?_
    apply yes hb
    obtain⟨d,s',e⟩:=op_slot hb
    refine bcase (b:=r.dst==1) (λhd1=>no hd1 (rest0 λs e=>by rw[e] at hd1;exact nomatch hd1)) λhd1=>?_
    apply yes hd1
    have hd1:d=1:=eq_of_beq (by rw[e] at hd1;exact hd1)
    have hs4:=(hP i hi4.1 hi4.2 _ hrm).2 d s' e
    apply ok_mk (show opBin .add (.int 2) r.more=some (.int (2+s')) from congrArg (opBin .add (.int 2)) (congrArg Row.more e))
    refine D.putN (i:=2+s') (by lia) (by lia) λG' D'=>?_
    exact rest G' _ j12 D' (hle.trans λx hx=>addS_mem hx) (λj hj s hs=>addS_mem (hsl j hj s hs)) (app (λs hs=>addS_mem (hsl2 s hs)) λs e'=>by rw[e] at e';cases e';exact addS_i)
   ·rintro ρ G ⟨d2,nm,j7,j8,j9,j10,j11,j12,hd2,rfl,D,hle,hsl,hsl2⟩
    rw[List.append_nil] at hd2
    subst hd2
    refine fin G nm _ _ _ _ _ _ _ _ D hle λj hj s hs=>?_
    rcases List.mem_append.mp hj with hj|hj
    ·exact hsl j hj s hs
    ·cases List.mem_singleton.mp hj;exact hsl2 s hs
  ·rintro ρ G ⟨dn,nm,j4,j6,j7,j8,j9,j10,j11,j12,j13,hdn,rfl,D,hle,hsl⟩
   rw[List.append_nil] at hdn
   subst hdn
   obtain⟨es,ges,nds,hks⟩:=D.ks
   have hlen:=KeyD.len (H:=G) (a:=sd) D.bs nds hks
   have hsort:sortedOf G (.ref sd)=some ((sortI (es.map (·.1))).map .int):=by
    exact (congrArg sortedO ges).trans (if_pos (by lia))
   apply ok_mk hsort
   let Iv:List (Int)→AHeap→(List AV→AHeap→Prop)→Prop:=λl G' Q'=>And3 (∀ x∈l,x∈sortI (es.map (·.1))) (G'=G) (Q' (l.map λx_=>.bool true) G)
   refine compL_map AV.int Iv ?_ ?_ _ _ _ ⟨λx_ hx=>hx,rfl,?_⟩
   ·rintro x l G' Q' K hk ⟨hx,rfl,hq⟩
    have hst:=(hks x).mp (sortI_mem (hx x (.head _)))
    have hn:nm x=true:=by
     rcases h2 x hst with h|⟨i,s,i0,i1,hs,rfl⟩
     ·exact hle x h
     ·exact hsl i (by rcases i4 i0 i1 with rfl|rfl|rfl|rfl<;>simp) s hs
    have hin:opCm G' .isin (.int x) (.ref nd)=some (nm x):=D.kn.isin x
    rw[hn] at hin
    apply ok_mk hin
    exact hk _ _ trivial ⟨λy hy=>hx y (.tail _ hy),rfl,hq⟩
   ·rintro G' Q' ⟨_,rfl,hq⟩;exact hq
   ·apply ok_mk (boolsOf_map (λx_=>true) (sortI (es.map (·.1))))
    have e:((sortI (es.map (·.1))).map λx_=>true).all id=true:=by refine rwI List.all_map ?_;exact List.all_eq_true.mpr λx_ x_=>rfl
    refine (?_:Q (.bool (((sortI (es.map (·.1))).map λx_=>true).all id)) _)
    refine rwI e ?_
    exact h _
inductive RowG:Row→Prop
 |acc {h r}:(h=1∨h=2∨h=3∨h=5∨h=6∨(11≤h∧h < 21))→AccR h r→RowG r
 |st4 {b:Int}:b=2∨b=3∨b=6→RowG (.store (.r 4) (.r b) 4 false)
 |fr {f r}:11≤f→f < 21→Fr f r→RowG r
 |mv {a b:Int} {m}:a=2∨a=3∨a=6→b=1∨b=2∨b=3→RowG (.move (.r a) (.r b) m)
 |bin {o d x y}:o≠.shr→7≤d→d < 11→VOpd x→VOpd y→RowG (.bin o d x y)
 |see {d x}:d = -1∨(7≤d∧d < 11)→VOpd x→RowG (.call d x false)
 |poke {d b:Int}:d = -1∨(7≤d∧d < 11)→b=1∨b=2∨b=3→RowG (.call d (.r b) true)
 |slot {s}:0≤s→s < 4→RowG (.slot (s+2) s)
 |slot1:RowG (.slot 1 0)
 |name:RowG (.name 6)
 |shr:RowG (.bin .shr 0 (.r 0) (.k 1))
theorem RowG.drop {r:Row}(h:RowG r):RowG r.drop:=by
 cases h with
 |acc hh ha=>cases ha<;>exact .acc hh (by constructor<;>assumption)
 |st4 h=>exact .st4 h
 |fr a b h=>cases h<;>exact .fr a b (by constructor<;>assumption)
 |mv a b=>exact .mv a b
 |bin a b c d e=>exact .bin a b c d e
 |see a b=>exact .see (.inl rfl) b
 |poke a b=>exact .poke (.inl rfl) b
 |slot a b=>exact .slot a b
 |slot1=>exact .slot1
 |name=>exact .name
 |shr=>exact .shr
theorem VOpd.ok {o:Opd}(h:VOpd o):OpdOk o:=by
 cases h with
 |r a b=>exact⟨by lia,by lia⟩
 |k a b=>exact⟨a,b⟩
theorem RowG.opds {r:Row}(h:RowG r):∀ o∈r.args,OpdOk o:=by
 have rr:∀ x:Int,0≤x∧x < 21→OpdOk (.r x):=λx a=>a
 have ra:∀ {x:Int},(x=1∨x=2∨x=3∨x=5∨x=6∨(11≤x∧x < 21))→0≤x∧x < 21:=λh=>
  h.elim (λe=>e ▸ by decide) λh=>h.elim (λe=>e ▸ by decide) λh=>h.elim (λe=>e ▸ by decide) λh=>h.elim (λe=>e ▸ by decide) λh=>h.elim (λe=>e ▸ by decide) λh=>⟨Int.le_trans (by decide) h.1,h.2⟩
 intro o ho
 cases h with
 |acc hh ha=>
  cases ha with
  |st hv hw=>exact all2 ho (rr _ (ra hh)) hv.ok
  |ld a b hw=>exact all1 ho (rr _ (ra hh))
 |st4 h=>exact all2 ho (rr _ (by lia)) (rr _ (by lia))
 |fr a b h=>
  cases h with
  |ld=>exact all1 ho (rr _ (by lia))
  |cp h=>exact all1 ho (rr _ (by lia))
  |ad=>exact all2 ho (rr _ (by lia)) ⟨by decide,by decide⟩
 |mv a b=>exact all2 ho (rr _ (by lia)) (rr _ (by lia))
 |bin a b c d e=>exact all2 ho d.ok e.ok
 |see a b=>exact all1 ho b.ok
 |poke a b=>exact all1 ho (rr _ (by lia))
 |slot a b=>exact nomatch ho
 |slot1=>exact nomatch ho
 |name=>exact nomatch ho
 |shr=>exact all2 ho (rr _ (by lia)) ⟨by decide,by decide⟩
theorem RowG.regs {r:Row}(h:RowG r):RegsOk r.args:=λx hx=>h.opds _ hx
theorem RowG.dst {r:Row}(h:RowG r):-1≤r.dst∧r.dst < 21:=by
 cases h with
 |acc hh ha=>cases ha<;>(simp only[Row.dst];lia)
 |fr a b h=>cases h<;>(simp only[Row.dst];lia)
 |_=>simp only[Row.dst];lia
theorem RowG.noself {r:Row}(h:RowG r):∀ d,r≠.copy d (.r d):=by
 intro d e
 cases h with
 |acc hh ha=>cases ha<;>cases e
 |fr a b h=>
  cases h with
  |ld=>cases e
  |cp h=>cases e;lia
  |ad=>cases e
 |_=>exact nomatch e
theorem RowG.wrow {r:Row}(h:RowG r):WRow r:=by
 cases h with
 |acc hh ha=>cases ha<;>assumption
 |st4 _=>exact .inr (.inr rfl)
 |fr a b h=>
  cases h with
  |ld=>exact .inr (.inr rfl)
  |cp h=>trivial
  |ad=>trivial
 |slot a b=>exact⟨a,b⟩
 |slot1=>exact⟨by decide,by decide⟩
 |_=>trivial
theorem RowG.prow {r:Row}(h:RowG r):PRow r:=by
 refine⟨h.opds,h.wrow,λd x y e=>?_⟩
 cases h with
 |acc hh ha=>cases ha<;>cases e
 |fr a b h=>cases h<;>cases e
 |bin a b c d' e'=>cases e;exact absurd rfl a
 |shr=>cases e;rfl
 |_=>cases e
theorem RowG.ck {r:Row}(h:RowG r):CkRow r:=by
 refine⟨h.opds,?_⟩
 have hd:=h.dst
 have hw:=h.wrow
 cases h with
 |acc hh ha=>
  cases ha with
  |st hv hw=>exact hw
  |ld a b hw=>exact⟨hw,by lia,by lia⟩
 |st4 _=>exact .inr (.inr rfl)
 |fr a b h=>
  cases h with
  |ld=>exact⟨.inr (.inr rfl),by lia,by lia⟩
  |cp h=>exact⟨by simp only[Row.dst];lia,by simp only[Row.dst];lia⟩
  |ad=>exact⟨by simp only[Row.dst];lia,by simp only[Row.dst];lia⟩
 |mv a b=>trivial
 |bin a b c d e=>exact⟨by simp only[Row.dst];lia,by simp only[Row.dst];lia⟩
 |see a b=>exact hd
 |poke a b=>exact hd
 |slot a b=>exact⟨a,b,by lia,by lia⟩
 |slot1=>exact⟨by decide,by decide,by decide,by decide⟩
 |name=>exact⟨by decide,by decide⟩
 |shr=>exact⟨by decide,by decide⟩
theorem RowG.slotd {d s:Int}(h:RowG (.slot d s)):(d=s+2∧0≤s∧s < 4)∨(d=1∧s=0):=by
 generalize he:Row.slot d s=r at h
 cases h with
 |acc hh ha=>cases ha<;>cases he
 |fr a b h=>cases h<;>cases he
 |slot a b=>cases he;exact .inl ⟨rfl,a,b⟩
 |slot1=>cases he;exact .inr ⟨rfl,rfl⟩
 |_=>cases he
theorem RowG.home {r:Row}(h:RowG r)(h2:2≤r.dst)(h6:r.dst < 6):r=.slot r.dst (r.dst - 2):=by
 cases h with
 |acc hh ha=>cases ha<;>(simp only[Row.dst] at h2 h6;lia)
 |fr a b h=>cases h<;>(simp only[Row.dst] at h2 h6;lia)
 |slot a b=>simp only[Row.dst];congr;lia
 |_=>simp only[Row.dst] at h2 h6;lia
theorem Line.good {f:Int}{R:List Row}(h:Line f R)(f0:11≤f)(f1:f < 21):∀ r∈R,RowG r:=by
 intro r hr
 cases h with
 |acc hh ha=>exact mem1 hr ▸ .acc (hh.imp_right (Or.imp_right (Or.imp_right (Or.imp_right Or.inl)))) ha
 |st4 h=>simp at hr;subst hr;exact .st4 h
 |reach h0 h1=>
  simp at hr
  rcases hr with rfl|rfl
  ·exact .fr f0 f1 h0
  ·exact .acc (.inr (.inr (.inr (.inr (.inr ⟨f0,f1⟩))))) h1
 |mv a b=>simp at hr;subst hr;exact .mv a b
 |bin a b c d e=>simp at hr;subst hr;exact .bin a b c d e
 |see a b c=>simp at hr;subst hr;exact .see (.inr ⟨a,b⟩) c
 |poke a b c=>simp at hr;subst hr;exact .poke (.inr ⟨a,b⟩) c
theorem Line.dst {f:Int}{R:List Row}(h:Line f R)(f0:11≤f):∀ r∈R,r.dst < 2∨6≤r.dst:=by
 intro r hr
 cases h with
 |acc hh ha=>simp at hr;subst hr;cases ha<;>(simp only[Row.dst];lia)
 |st4 h=>simp at hr;subst hr;simp only[Row.dst];lia
 |reach h0 h1=>
  simp at hr
  rcases hr with rfl|rfl
  ·cases h0<;>(simp only[Row.dst];lia)
  ·cases h1<;>(simp only[Row.dst];lia)
 |mv a b=>simp at hr;subst hr;simp only[Row.dst];lia
 |bin a b c d e=>simp at hr;subst hr;simp only[Row.dst];lia
 |see a b c=>simp at hr;subst hr;simp only[Row.dst];lia
 |poke a b c=>simp at hr;subst hr;simp only[Row.dst];lia
theorem blk0_good:∀ r∈blk0,RowG r:=by
 intro r hr
 simp[blk0] at hr
 rcases hr with rfl|rfl|rfl|rfl|rfl|rfl
 ·exact .slot (s:=0) (by decide) (by decide)
 ·exact .slot (s:=1) (by decide) (by decide)
 ·exact .slot (s:=2) (by decide) (by decide)
 ·exact .slot (s:=3) (by decide) (by decide)
 ·exact .name
 ·exact .st4 (.inr (.inr rfl))
theorem Blk.good {i:Int}{R:List Row}(h:Blk i R):∀ r∈R,RowG r∧(r.dst < 2∨6≤r.dst):=by
 obtain⟨b,ls,⟨_,hl⟩,rfl⟩:=h
 intro r hr
 rcases List.mem_append.mp hr with hr|hr
 ·rcases List.mem_append.mp hr with hr|hr
  ·cases b with
   |true=>simp[ledR] at hr;subst hr;exact⟨.slot1,by decide⟩
   |false=>exact nomatch hr
  ·obtain⟨l,hl',hr⟩:=List.mem_flatten.mp hr
   obtain⟨f,f0,f1,hf⟩:=hl l hl'
   exact⟨hf.good f0 f1 r hr,hf.dst f0 r hr⟩
 ·split at hr
  ·simp at hr;subst hr;exact⟨.shr,by decide⟩
  ·cases hr
theorem Blk.len {i:Int}{R:List Row}(h:Blk i R):R.length≤8:=by
 obtain⟨b,ls,⟨h3,hl⟩,rfl⟩:=h
 have key:∀ ls:List (List Row),(∀ l∈ls,∃ f,11≤f∧f < 21∧Line f l)→ls.flatten.length≤2 * ls.length:=by
  intro ls
  induction ls with
  |nil=>intro _;simp
  |cons x ls ih=>
   intro h
   obtain⟨f,_,_,hx⟩:=h x (.head _)
   have h1:x.length≤2:=by cases hx<;>(first|exact Nat.succ_pos _|exact Nat.lt_succ_self _)
   have h2:=ih λl hl=>h l (.tail _ hl)
   simp at h2 ⊢;lia
 have k:=key ls hl
 (refine rwI List.length_append ?_;refine rwI List.length_append ?_)
 have h1:(ledR b).length≤1:=by cases b<;>simp[ledR]
 have h2:(if i=2 then [Row.bin .shr 0 (.r 0) (.k 1)] else []).length≤1:=by split<;>simp
 lia
noncomputable def cntR (l:List Row) (x:Int):Nat:=l.countP λr=>r.dst==x
structure Wf (R:Int→List Row)(E:Ens)(br:Bool):Prop where
 ok:∀ i,0≤i→i < 4→∀ r∈R i,RowG r
 len:∀ i,0≤i→i < 4→(R i).length≤20
 cnt:∀ x,2≤x→x < 6→cntR (R 0) x+cntR (R 1) x+cntR (R 2) x+cntR (R 3) x≤1
 ends:EndsOk br E
theorem cnt_zero {l:List Row}{x:Int}(h:∀ r∈l,r.dst≠x):cntR l x=0:=by
 unfold cntR;refine rwI (propext List.countP_eq_zero) ?_;intro r hr;simpa using h r hr
theorem Drawn.wf {R:Int→List Row}{E:Ens}{br:Bool}(h:Drawn R)(he:EndsOk br E):Wf R E br:=by
 refine⟨λi a b r hr=>?_,λi a b=>?_,λx a b=>?_,he⟩
 ·by_cases e:i=0
  ·subst e;rw[h.p0] at hr;exact blk0_good r hr
  ·exact ((h.pl i (by lia) b).good r hr).1
 ·by_cases e:i=0
  ·subst e;refine rwI h.p0 ?_;decide
  ·have:=(h.pl i (by lia) b).len;lia
 ·have z:∀ i,1≤i→i < 4→cntR (R i) x=0:=λi p q=>cnt_zero λr hr e=>by
   have:=((h.pl i p q).good r hr).2;lia
  (refine rwI (z 1 (by decide) (by decide)) ?_;refine rwI (z 2 (by decide) (by decide)) ?_;refine rwI (z 3 (by decide) (by decide)) ?_;refine rwI h.p0 ?_)
  have:x=2∨x=3∨x=4∨x=5:=by lia
  rcases this with rfl|rfl|rfl|rfl<;>decide
theorem Sub.len {l w:List Row}(h:Sub l w):l.length≤w.length:=by
 induction h with
 |nil=>exact Nat.le_refl _
 |keep _ _ ih=>simpa using ih
 |skip _ ih=>exact Nat.le_succ_of_le ih
theorem Sub.filt {l w:List Row}(h:Sub l w)(p:Row→Bool):Sub (l.filter p) w:=by
 induction h with
 |nil=>exact .nil
 |keep hk _ ih=>
  refine rwI List.filter_cons ?_
  split
  ·exact .keep hk ih
  ·exact .skip ih
 |skip _ ih=>exact .skip ih
theorem Sub.good {l w:List Row}(h:Sub l w)(hw:∀ r∈w,RowG r):∀ r∈l,RowG r:=by
 induction h with
 |nil=>intro r hr;exact nomatch hr
 |keep hk _ ih=>
  intro r hr
  rcases List.mem_cons.mp hr with rfl|hr
  ·have:=hw _ (.head _)
   rcases hk with rfl|rfl
   ·exact this
   ·exact this.drop
  ·exact ih (λr hr=>hw r (.tail _ hr)) r hr
 |skip _ ih=>exact ih λr hr=>hw r (.tail _ hr)
theorem drop_dst (r:Row):r.drop.dst=r.dst∨r.drop.dst = -1:=by cases r<;>first|exact .inl rfl|exact .inr rfl
theorem Sub.cnt {l w:List Row}(h:Sub l w){x:Int}(hx:0≤x):cntR l x≤cntR w x:=by
 induction h with
 |nil=>exact Nat.le_refl _
 |@keep a b ls ws hk _ ih=>
  refine Nat.le_trans (Nat.le_of_eq List.countP_cons) (Nat.le_trans (Nat.add_le_add ih ?_) (Nat.le_of_eq List.countP_cons.symm))
  rcases hk with rfl|rfl
  ·exact Nat.le_refl _
  ·rcases drop_dst b with e|e
   ·refine rwI e ?_;exact Nat.le_refl _
   ·(refine rwI e ?_;refine rwI (if_neg λq:((-1:Int)==x)=true=>absurd (eq_of_beq q ▸ hx:(0:Int)≤-1) (by decide)) ?_)
    exact Nat.zero_le _
 |skip _ ih=>exact Nat.le_trans ih (Nat.le_trans (Nat.le_add_right ..) (Nat.le_of_eq List.countP_cons.symm))
noncomputable def msr1:Row→Nat:=@λy_1=>match @y_1 with
 |.call d x_1 x_2=>if d ≥ 0 then 2 else 1
 |x_1=>1
noncomputable def msr (l:List Row):Nat:=(l.map msr1).sum
theorem msr1_drop (r:Row):msr1 r.drop≤msr1 r∧(msr1 r.drop=msr1 r→-1≤r.dst→r.drop=r):=by
 cases r with
 |call d a p=>
  refine (?_:(if (-1:Int) ≥ 0 then 2 else 1)≤(if d ≥ 0 then 2 else 1)∧((if (-1:Int) ≥ 0 then 2 else 1)=(if d ≥ 0 then 2 else 1)→-1≤d→Row.call (-1) a p=Row.call d a p))
  have h1:¬ ((-1:Int) ≥ 0):=by decide
  refine rwI (if_neg h1) ?_
  split
  ·exact⟨by lia,λe=>by lia⟩
  ·exact⟨by lia,λx_ h=>by congr;lia⟩
 |_=>exact⟨Nat.le_refl _,λx_ x_=>rfl⟩
theorem msr1_pos (r:Row):1≤msr1 r:=by
 cases r with
 |call d a p=>refine (?_:1≤if d ≥ 0 then 2 else 1);split<;>decide
 |_=>exact Nat.le_refl 1
theorem addE {a b c d:Nat}(h:a≤b)(k:c≤d)(e:a+c=b+d):a=b∧c=d:=by lia
theorem Sub.msr {l w:List Row}(h:Sub l w):Mine.Internal.msr l≤Mine.Internal.msr w∧(Mine.Internal.msr l=Mine.Internal.msr w→(∀ r∈w,-1≤r.dst)→l=w):=by
 induction h with
 |nil=>exact⟨Nat.le_refl _,λx_ x_=>rfl⟩
 |@keep a b ls ws hk _ ih=>
  rcases hk with rfl|rfl
  ·exact⟨Nat.add_le_add_left ih.1 _,λe hd=>congrArg _ (ih.2 (Nat.add_left_cancel e) λr hr=>hd r (.tail _ hr))⟩
  ·have:=msr1_drop b
   refine⟨Nat.add_le_add this.1 ih.1,λe hd=>?_⟩
   have q:=addE this.1 ih.1 e
   (refine rwI (this.2 q.1 (hd b (.head _))) ?_;refine rwI (ih.2 q.2 λr hr=>hd r (.tail _ hr)) ?_;rfl)
 |@skip ls w ws _ ih=>
  exact⟨Nat.le_trans ih.1 (Nat.le_add_left _ _),λe x_=>absurd e (Nat.ne_of_lt (Nat.lt_of_le_of_lt ih.1 (Nat.lt_add_of_pos_left (msr1_pos w))))⟩
theorem veqs_len:∀ {xs ys:List AV},veqs xs ys=true→xs.length=ys.length:=@λy_1=>@λy_2=>@λy_3=>match @y_1,@y_2,@y_3 with
 |[],[],x_1=>rfl
 |[],x_1::x_2,h=>(Bool.false_ne_true h).elim
 |x_1::x_2,[],h=>(Bool.false_ne_true h).elim
 |x::xs,y::ys,h=>congrArg Nat.succ (veqs_len (band2 h).2)
theorem Sub.veq {l w:List Row}(h:Sub l w)(hv:veqs (l.map rowV) (w.map rowV)=true):l=w:=by
 induction h with
 |nil=>rfl
 |@keep a b ls ws hk _ ih=>
  replace hv:=band2 hv
  refine rwI (ih hv.2) ?_
  rcases hk with rfl|rfl
  ·rfl
  ·congr 1
   cases b with
   |call d x p=>
    exact congrArg (λd=>Row.call d x p) (eq_of_beq (a:=(-1:Int)) (b:=d) (band2 hv.1).1)
   |_=>rfl
 |skip hs ih=>
  have:=veqs_len hv
  have:=hs.len
  simp at *;lia
theorem sweepPair_fst (A:Adr)(m:ISet):∀ l:List Row,(sweepPair A l m).1=liveRows A l m:=@λy_1=>match @y_1 with
 |[]=>rfl
 |r::l=>by
  have ih:=sweepPair_fst A m l
  refine (?_:(sweepStep A r (sweepPair A l m)).1=liveStep A r (liveRows A l m))
  unfold sweepStep liveStep
  refine rwI ih ?_
  cases liveRows A l m r.dst with
  |true=>rfl
  |false=>
   cases isFree A r with
   |true=>exact ih
   |false=>rfl
theorem sweep_cons (A:Adr)(m:ISet)(r:Row)(l:List Row):sweepRows A (r::l) m=match liveRows A l m r.dst with
  |true=>r::sweepRows A l m
  |false=>match isFree A r with
   |true=>sweepRows A l m
   |false=>r.drop::sweepRows A l m:=by
 refine (?_:(sweepStep A r (sweepPair A l m)).2=_)
 unfold sweepStep
 refine rwI (sweepPair_fst ..) ?_
 cases liveRows A l m r.dst with
 |true=>rfl
 |false=>cases isFree A r<;>rfl
theorem sweep_sub (A:Adr)(m:ISet):∀ l:List Row,Sub (sweepRows A l m) l:=@λy_1=>match @y_1 with
 |[]=>.nil
 |r::l=>by
  refine rwI (sweep_cons ..) ?_
  have ih:=sweep_sub A m l
  cases liveRows A l m r.dst with
  |true=>exact .keep (.inl rfl) ih
  |false=>
   cases isFree A r with
   |true=>exact .skip ih
   |false=>exact .keep (.inr rfl) ih
theorem sweep_id {A:Adr}{m:ISet}:∀ {l:List Row},sweepRows A l m=l→∀ r∈l,isFree A r=true→∃ l2,(∃ l1,l=l1++r::l2)∧liveRows A l2 m r.dst=true:=@λy_1=>@λy_2=>@λy_3=>@λy_4=>@λy_5=>match @y_1,@y_2,@y_3,@y_4,@y_5 with
 |[],x_1,r,hr,x_2=>by cases hr
 |a::l,h,r,hr,hf=>by
  rw[sweep_cons] at h
  have hl:=(sweep_sub A m l).len
  have key:sweepRows A l m=l∧(isFree A a=true→liveRows A l m a.dst=true):=by
   cases h1:liveRows A l m a.dst with
   |true=>rw[h1] at h;simp only[List.cons.injEq,true_and] at h;exact⟨h,λx_=>rfl⟩
   |false=>
    rw[h1] at h
    cases h2:isFree A a with
    |true=>
     rw[h2] at h
     have:=congrArg List.length h
     simp at this;lia
    |false=>
     rw[h2] at h
     simp only[List.cons.injEq] at h
     exact⟨h.2,λe=>by cases e⟩
  rcases List.mem_cons.mp hr with rfl|hr
  ·exact⟨l,⟨[],rfl⟩,key.2 hf⟩
  ·obtain⟨l2,⟨l1,e⟩,hl2⟩:=sweep_id key.1 r hr hf
   exact⟨l2,⟨a::l1,by refine rwI e ?_;rfl⟩,hl2⟩
noncomputable def kIf (ok:Bool) (a b:Int→Option Int):Int→Option Int:=match ok with
 |true=>a
 |false=>b
noncomputable def FormR (r:Row) (g:List Int) (μ:Int→Int) (tr:List AV):Prop:=∃ ok v μ2 tr2,∀ κ,doRow ⟨κ,μ,tr⟩ r g=(ok,⟨kIf ok (setK κ r.dst v) κ,μ2,tr2⟩)
theorem form_div {d:Int}{x y:Opd}{g0 g1:Int}{μ:Int→Int}{tr:List AV}:FormR (.bin .divu d x y) [g0,g1] μ tr:=by
 have e:∀ κ,doRow ⟨κ,μ,tr⟩ (.bin .divu d x y) [g0,g1]=doDiv ⟨κ,μ,tr⟩ d y g0 g1:=λκ=>rfl
 refine bcase (b:=g1==0) (λh=>⟨true,g0.fdiv g1,μ,pushIf (isR y) tr (evD g0 g1),λκ=>?_⟩) λh=>⟨false,0,μ,tr++[evD g0 g1],λκ=>?_⟩
 ·refine rwI (e ..) ?_;unfold doDiv;refine rwI h ?_;rfl
 ·refine rwI (e ..) ?_;unfold doDiv;refine rwI h ?_;rfl
theorem doRow_form (r:Row)(g:List Int)(hl:g.length=r.args.length)(μ:Int→Int)(tr:List AV):FormR r g μ tr:=by
 cases r with
 |slot d s=>exact⟨true,_,_,_,λκ=>rfl⟩
 |name d=>exact⟨true,_,_,_,λκ=>rfl⟩
 |load d a w sx f=>obtain⟨g0,rfl⟩:=len1 hl;exact⟨true,sxV sx (getN μ g0 w.toNat) w,μ,pushIf (f || !own a w) tr (evL g0 w (getN μ g0 w.toNat) f),λκ=>rfl⟩
 |store a b w f=>obtain⟨g0,g1,rfl⟩:=len2 hl;exact⟨true,0,layN μ g0 g1 w.toNat,pushIf (f || !own a w) tr (evS g0 w g1 f),λκ=>rfl⟩
 |move a b f=>obtain⟨g0,g1,rfl⟩:=len2 hl;exact⟨true,0,layN μ g0 (getN μ g1 4) 4,tr++[evM g0 g1 f],λκ=>rfl⟩
 |call d a p=>
  obtain⟨g0,rfl⟩:=len1 hl
  cases p with
  |true=>exact⟨true,getN μ g0 4,layN μ g0 (getN μ g0 4 * 5+1) 4,tr++[evC true g0 (getN μ g0 4)],λκ=>rfl⟩
  |false=>exact⟨true,g0+3,μ,tr++[evC false g0 (g0+3)],λκ=>rfl⟩
 |copy d a=>obtain⟨g0,rfl⟩:=len1 hl;exact⟨true,_,_,_,λκ=>rfl⟩
 |bin o d x y=>
  obtain⟨g0,g1,rfl⟩:=len2 hl
  cases o with
  |divu=>exact form_div
  |_=>exact⟨true,_,_,_,λκ=>rfl⟩
theorem doRow_drop (r:Row)(g:List Int)(hl:g.length=r.args.length)(m:Mc):r.drop=r∨((doRow m r.drop g).1=(doRow m r g).1∧(doRow m r.drop g).2=⟨m.κ,(doRow m r g).2.μ,(doRow m r g).2.tr⟩):=by
 cases r with
 |call d a p=>obtain⟨g0,rfl⟩:=len1 hl;cases p<;>exact .inr ⟨rfl,rfl⟩
 |_=>exact .inl rfl
noncomputable def AdrOk (A:Adr):Prop:=∀ x s,A x=some s→2≤x∧x < 6∧s=x - 2
noncomputable def FreeR (r:Row) (μ:Int→Int) (tr:List AV) (g:List Int):Prop:=∃ v,∀ κ,doRow ⟨κ,μ,tr⟩ r g=(true,⟨setK κ r.dst v,μ,tr⟩)
theorem ev1 {κ:Int→Option Int}{a:Opd}{g:List Int}{P:List Int→Prop}(h:evalL κ [a]=some g)(k:∀ x,evalO κ a=some x→P [x]):P g:=by
 obtain⟨x,xs,h1,h2,rfl⟩:=evalL_cons h
 exact Option.some.inj h2 ▸ k x h1
theorem ev2 {κ:Int→Option Int}{a b:Opd}{g:List Int}{P:List Int→Prop}(h:evalL κ [a,b]=some g)(k:∀ x y,evalO κ a=some x→evalO κ b=some y→P [x,y]):P g:=by
 obtain⟨x,xs,h1,h2,rfl⟩:=evalL_cons h
 exact ev1 (P:=λl=>P (x::l)) h2 λy h3=>k x y h1 h3
theorem free_load {A:Adr}(hA:AdrOk A){d w g0:Int}{x:Int}{sx:Bool}(hf:isFree A (.load d (.r x) w sx false)=true)(μ:Int→Int)(tr:List AV):FreeR (.load d (.r x) w sx false) μ tr [g0]:=by
 replace hf:(match A x with|some s=>decide (w≤sizeS s)|none=>false)=true:=hf
 refine ocase (o:=A x) (λhx=>?_) λs hx=>?_
 ·rw[hx] at hf;exact (Bool.false_ne_true hf).elim
 ·rw[hx] at hf
  have h:=hA x s hx
  have ho:own (.r x) w=true:=by simp only[own,Bool.and_eq_true,decide_eq_true_eq];exact⟨h.1,h.2.1,h.2.2 ▸ of_decide_eq_true hf⟩
  exact⟨sxV sx (getN μ g0 w.toNat) w,λκ=>congrArg (λc=>(true,(⟨setK κ d (sxV sx (getN μ g0 w.toNat) w),μ,pushIf (false || !c) tr (evL g0 w (getN μ g0 w.toNat) false)⟩:Mc))) ho⟩
theorem free_div {A:Adr}{d v g0:Int}{x:Opd}(hf:isFree A (.bin .divu d x (.k v))=true)(μ:Int→Int)(tr:List AV):FreeR (.bin .divu d x (.k v)) μ tr [g0,v]:=by
 have hf:(!(v.fmod 4294967296==0))=true:=hf
 have h0:(v==0)=false:=beq_eq_false_iff_ne.mpr λe=>by rw[e] at hf;exact Bool.false_ne_true hf
 refine⟨g0.fdiv v,λκ=>?_⟩
 refine (?_:doDiv ⟨κ,μ,tr⟩ d (.k v) g0 v=_)
 unfold doDiv
 refine rwI h0 ?_;rfl
theorem doRow_free {A:Adr}(hA:AdrOk A){r:Row}(hf:isFree A r=true){κ:Int→Option Int}{g:List Int}(hg:evalL κ r.args=some g)(μ:Int→Int)(tr:List AV):FreeR r μ tr g:=by
 cases r with
 |slot d s=>exact⟨_,λκ=>rfl⟩
 |name d=>exact⟨_,λκ=>rfl⟩
 |copy d a=>exact ev1 hg λg0 x_=>⟨_,λκ=>rfl⟩
 |load d a w sx f=>
  refine ev1 hg λg0 x_=>?_
  cases f with
  |true=>cases a<;>exact (Bool.false_ne_true hf).elim
  |false=>
   cases a with
   |k v=>exact (Bool.false_ne_true hf).elim
   |r x=>exact free_load hA hf μ tr
 |bin o d x y=>
  refine ev2 hg λg0 g1 x_ h1=>?_
  cases o with
  |divu=>
   cases y with
   |r n=>exact (Bool.false_ne_true hf).elim
   |k v=>refine rwS (Option.some.inj h1) ?_;exact free_div hf μ tr
  |_=>exact⟨_,λκ=>rfl⟩
 |store a b w f=>exact (Bool.false_ne_true hf).elim
 |move a b f=>exact (Bool.false_ne_true hf).elim
 |call d a p=>exact (Bool.false_ne_true hf).elim
noncomputable def Agree (m:ISet) (κ κ':Int→Option Int):Prop:=∀ x,m x=true→κ x=κ' x
theorem evalL_agree {κ κ':Int→Option Int}:∀ {l:List Opd},(∀ x,.r x∈l→κ x=κ' x)→evalL κ l=evalL κ' l:=@λy_1=>@λy_2=>match @y_1,@y_2 with
 |[],x_1=>rfl
 |o::l,h=>by
  have h1:evalO κ o=evalO κ' o:=by
   cases o with
   |r x=>exact h x (.head _)
   |k v=>rfl
  refine evalL_c.trans (Eq.trans ?_ evalL_c.symm)
  (refine rwI h1 ?_;refine rwI (evalL_agree λx hx=>h x (.tail _ hx)) ?_;rfl)
theorem uses_has {l:List Opd}{m:ISet}{x:Int}(h:.r x∈l):uses l m x=true:=by
 simp only[uses,Bool.or_eq_true,List.contains_iff_mem];exact .inr h
theorem live_nonneg {A:Adr}{m:ISet}(hm:∀ x,m x=true→0≤x):∀ {l:List Row},(∀ r∈l,RegsOk r.args)→∀ x,liveRows A l m x=true→0≤x:=λ{l} hl x hx=>by
 rcases liveRows_used hx with h|⟨p,hp,hr⟩
 ·exact hm x h
 ·exact (hl p hp x hr).1
theorem setK_agree {m:ISet}{κ κ':Int→Option Int}{d v:Int}(hd:m d=true→0≤d)(h:∀ x,m x=true→x≠d→κ x=κ' x):Agree m (setK κ d v) (setK κ' d v):=by
 intro x hx
 unfold setK
 cases hdd:decide (d ≥ 0) with
 |true=>
  simp only
  by_cases e:x=d
  ·(refine rwI (if_pos e) ?_;refine rwI (if_pos e) ?_;rfl)
  ·(refine rwI (if_neg e) ?_;refine rwI (if_neg e) ?_);exact h x hx e
 |false=>
  simp only
  refine h x hx λe=>?_
  rw[e] at hx
  have:=hd hx
  have:=of_decide_eq_false hdd
  lia
theorem setK_other {κ:Int→Option Int}{d v x:Int}(h:x≠d):setK κ d v x=κ x:=by
 unfold setK
 cases decide (d ≥ 0) with
 |true=>exact if_neg h
 |false=>rfl
abbrev DR (M:ISet)(p q:Bool×Mc):Prop:=q.1=p.1∧q.2.μ=p.2.μ∧q.2.tr=p.2.tr∧(p.1=true→Agree M p.2.κ q.2.κ)
noncomputable def DO (M:ISet) (o o':Option (Bool×Mc)):Prop:=∀ p,o=some p→∃ q,o'=some q∧DR M p q
section
variable {M:ISet}{κ κ':Int→Option Int}{μ:Int→Int}{tr:List AV}{r:Row}{g:List Int}
theorem row_keep (F:FormR r g μ tr)(hd:M r.dst=true→0≤r.dst)(h:∀ x,M x=true→x≠r.dst→κ x=κ' x):DR M (doRow ⟨κ,μ,tr⟩ r g) (doRow ⟨κ',μ,tr⟩ r g):=by
 obtain⟨ok,v,μ2,tr2,f⟩:=F
 (refine rwI (f ..) ?_;refine rwI (f ..) ?_)
 cases ok with
 |false=>exact⟨rfl,rfl,rfl,λe=>(Bool.false_ne_true e).elim⟩
 |true=>exact⟨rfl,rfl,rfl,λx_=>setK_agree hd h⟩
theorem row_drop (F:FormR r g μ tr)(hl:g.length=r.args.length)(hd:∀ x,M x=true→x≠r.dst)(h:∀ x,M x=true→κ x=κ' x):DR M (doRow ⟨κ,μ,tr⟩ r g) (doRow ⟨κ',μ,tr⟩ r.drop g):=by
 rcases doRow_drop r g hl ⟨κ',μ,tr⟩ with e|e
 ·refine rwI e ?_;exact row_keep F (λe=>absurd rfl (hd _ e)) λx hx x_=>h x hx
 ·obtain⟨ok,v,μ2,tr2,f⟩:=F
  rw[f] at e ⊢
  have hq:doRow ⟨κ',μ,tr⟩ r.drop g=(ok,⟨κ',μ2,tr2⟩):=Prod.ext e.1 e.2
  refine rwI hq ?_
  cases ok with
  |false=>exact⟨rfl,rfl,rfl,λe=>(Bool.false_ne_true e).elim⟩
  |true=>exact⟨rfl,rfl,rfl,λx_ x hx=>(setK_other (hd x hx)).trans (h x hx)⟩
theorem DR.go {m:ISet}{p q:Bool×Mc}{f f':Mc→Option (Bool×Mc)}(s:DR M p q)(k:∀ m1 m2,m2.μ=m1.μ→m2.tr=m1.tr→Agree M m1.κ m2.κ→DO m (f m1) (f' m2)):DO m (goO f p) (goO f' q):=by
 obtain⟨b,m1⟩:=p
 obtain⟨b',m2⟩:=q
 obtain⟨s1,s2,s3,s4⟩:=s
 have s1:b'=b:=s1
 subst s1
 cases b' with
 |false=>exact λp e=>⟨_,rfl,Option.some.inj e ▸ ⟨rfl,s2,s3,λe=>(Bool.false_ne_true e).elim⟩⟩
 |true=>exact k m1 m2 s2 s3 (s4 rfl)
end
theorem dce_rows {A:Adr}(hA:AdrOk A){m:ISet}(hm:∀ x,m x=true→0≤x)(l:List Row):∀ (κ κ':Int→Option Int)(μ:Int→Int)(tr:List AV),(∀ r∈l,RegsOk r.args)→Agree (liveRows A l m) κ κ'→DO m (rowsO ⟨κ,μ,tr⟩ l) (rowsO ⟨κ',μ,tr⟩ (sweepRows A l m)):=by
 induction l with
 |nil=>exact λκ κ' μ tr x_ ha p e=>⟨_,rfl,Option.some.inj e ▸ ⟨rfl,rfl,rfl,λx_=>ha⟩⟩
 |cons r l ih=>
  intro κ κ' μ tr hl ha
  refine ocase (o:=evalL κ r.args) (λe=>?_) λg e=>?_
  ·(refine rwI rowsO_cons ?_;refine rwI stepO_e ?_;refine rwI e ?_);exact λp e=>nomatch e
  have hl':∀ r∈l,RegsOk r.args:=λq hq=>hl q (.tail _ hq)
  have hM:=live_nonneg (A:=A) hm hl'
  replace ha:Agree (liveStep A r (liveRows A l m)) κ κ':=ha
  have F:=doRow_form r g (evalL_len e) μ tr
  have go:∀ m1 m2:Mc,m2.μ=m1.μ→m2.tr=m1.tr→Agree (liveRows A l m) m1.κ m2.κ→DO m (rowsO m1 l) (rowsO m2 (sweepRows A l m)):=λm1 m2 e1 e2 a=>by
   obtain⟨κ2,μ2,tr2⟩:=m2
   have e1:μ2=m1.μ:=e1
   have e2:tr2=m1.tr:=e2
   (refine rwI e1 ?_;refine rwI e2 ?_)
   exact ih m1.κ κ2 m1.μ m1.tr hl' a
  (refine rwI (rowsO_c (m:=⟨κ,μ,tr⟩) e) ?_;refine rwI (sweep_cons ..) ?_)
  unfold liveStep at ha
  generalize liveRows A l m=M at ha hM go
  cases hd:M r.dst with
  |true=>
   rw[hd] at ha
   refine (?_:DO m _ (rowsO ⟨κ',μ,tr⟩ (r::sweepRows A l m)))
   refine rwI (rowsO_c (m:=⟨κ',μ,tr⟩) (g:=g) ((evalL_agree λx hx=>ha x (uses_has hx)).symm.trans e)) ?_
   refine (row_keep F (λx_=>hM _ hd) λx hx hne=>ha x ?_).go go
   simp only[uses,Bool.or_eq_true,Bool.and_eq_true,bne_iff_ne,ne_eq]
   exact .inl ⟨hx,hne⟩
  |false=>
   rw[hd] at ha
   have notd:∀ x,M x=true→x≠r.dst:=λx hx e=>Bool.false_ne_true (hd.symm.trans (e ▸ hx))
   cases hf:isFree A r with
   |true=>
    obtain⟨v,hv⟩:=doRow_free hA hf e μ tr
    refine rwI (hv ..) ?_
    replace ha:Agree (match isFree A r with|true=>M|false=>uses r.args M) κ κ':=ha
    rw[hf] at ha
    exact go ⟨setK κ r.dst v,μ,tr⟩ ⟨κ',μ,tr⟩ rfl rfl λx hx=>(setK_other (notd x hx)).trans (ha x hx)
   |false=>
    replace ha:Agree (match isFree A r with|true=>M|false=>uses r.args M) κ κ':=ha
    rw[hf] at ha
    have hargs:r.drop.args=r.args:=by cases r<;>rfl
    refine (?_:DO m _ (rowsO ⟨κ',μ,tr⟩ (r.drop::sweepRows A l m)))
    rw[rowsO_c (m:=⟨κ',μ,tr⟩) (g:=g) (by refine rwI hargs ?_;exact (evalL_agree λx hx=>ha x (uses_has hx)).symm.trans e)]
    exact (row_drop F (evalL_len e) notd λx hx=>ha x (le_uses _ _ x hx)).go go
theorem behind_has {L:Int→ISet}{x:End}{j r:Int}(hj:j∈x.succ)(h:L j r=true):behind L x r=true:=List.any_eq_true.mpr ⟨j,hj,h⟩
theorem EndsOk.regs {br:Bool}{E:Ens}(h:EndsOk br E){i:Int}(i0:0≤i)(i1:i < 4):∀ x,.r x∈(E i).args→(x=0∨(7≤x∧x < 11)):=by
 intro x hx
 rcases i4 i0 i1 with rfl|rfl|rfl|rfl
 ·rw[h.e0] at hx;cases hx
 ·rcases h.e1 with⟨rfl,e⟩|⟨rfl,r,c,d,e⟩
  ·rw[e] at hx;cases hx
  ·rw[e] at hx;exact .inr ⟨rm1 hx ▸ c,rm1 hx ▸ d⟩
 ·rw[h.e2] at hx;exact .inl (rm1 hx)
 ·obtain⟨r,a,b,e⟩:=h.e3;rw[e] at hx;exact .inr ⟨rm1 hx ▸ a,rm1 hx ▸ b⟩
theorem end_agree {R R':Int→List Row}{E:Ens}{n:Nat}{m m':Mc}{M:ISet}(x:End)(h1:m'.μ=m.μ)(h2:m'.tr=m.tr)(ha:∀ r,.r r∈x.args→m.κ r=m'.κ r){v:AV}(go:∀ j,j∈x.succ→play R E n j m=some v→play R' E n j m'=some v)(h:endO R E n m x=some v):endO R' E n m' x=some v:=by
 cases x with
 |give r=>exact h ▸ (by refine (?_:(m'.κ r).map (resG m')=(m.κ r).map (resG m));rw[ha r (.head _),show resG m'=resG m from funext λx=>by (rewrite [resG,resG];refine rwI h1 ?_;refine rwI h2 ?_;rfl)])
 |jump t=>exact go t (.head _) h
 |branch r x y=>
  refine (?_:brO R' E n m' x y (m'.κ r)=_)
  refine rwS (ha r (.head _)) ?_
  have h:brO R E n m x y (m.κ r)=some v:=h
  revert h
  cases m.κ r with
  |none=>exact λh=>none_some h
  |some val=>
   refine go _ ?_
   cases val==0<;>(first|exact List.mem_cons_self|exact .tail _ (.head _))
theorem dce_play {A:Adr}(hA:AdrOk A){P:Prg}{E:Ens}{br:Bool}{L:Int→ISet}(hE:EndsOk br E)(hfix:∀ i,0≤i→i < 4→L i=liveF A P E L i)(hL:∀ i r,L i r=true→0≤r)(hg:∀ i,0≤i→i < 4→∀ r∈rowsOf P i,RowG r){R':Int→List Row}
  (hR:∀ i,0≤i→i < 4→R' i=sweptP A P E L i) {v:AV} (n:Nat):∀ (a:Int) (mc mc':Mc),0≤a→a < 4→Agree (L a) mc.κ mc'.κ→mc'.μ=mc.μ→mc'.tr=mc.tr→play (rowsOf P) E n a mc=some v→play R' E n a mc'=some v:=by
 induction n with
 |zero=>exact λa mc mc' x_ x_ x_ x_ e hp=>hp ▸ (congrArg (λt=>some (AV.tup [.str "long",.int 0,.lst t])) e)
 |succ n ih=>
  intro a mc mc' a0 a1 ha h1 h2 hp
  rw[hfix a a0 a1] at ha
  have hm:∀ x,uses (E a).args (behind L (E a)) x=true→0≤x:=λx hx=>by
   simp only[uses,Bool.or_eq_true,List.contains_iff_mem] at hx
   rcases hx with hx|hx
   ·obtain⟨j,_,e⟩:=List.any_eq_true.mp hx
    exact hL j x e
   ·have:=hE.regs a0 a1 x hx;lia
  obtain⟨b,m1,hro,hfa,htr⟩:=play_s hp
  have D:=dce_rows hA hm (rowsOf P a) mc.κ mc'.κ mc.μ mc.tr (λr hr=>(hg a a0 a1 r hr).regs) ha _ hro
  obtain⟨⟨b',m2⟩,hro',s1,s2,s3,s4⟩:=D
  have s1:b'=b:=s1
  have s2:m2.μ=m1.μ:=s2
  have s3:m2.tr=m1.tr:=s3
  subst s1
  have hro':rowsO mc' (R' a)=some (b',m2):=by
   obtain⟨κ',μ',tr'⟩:=mc'
   have h1:μ'=mc.μ:=h1
   have h2:tr'=mc.tr:=h2
   (refine rwI h1 ?_;refine rwI h2 ?_;refine rwI (hR a a0 a1) ?_);exact hro'
  cases b' with
  |false=>(refine rwI (play_f hro') ?_;rewrite [resD];refine rwI s2 ?_;refine rwI s3 ?_;refine rwI (hfa rfl) ?_);rfl
  |true=>
   refine rwI (play_t hro') ?_
   have e3:=s4 rfl
   refine end_agree (M:=L a) (E a) s2 s3 (λr hr=>e3 r (uses_has hr)) (λj hj hpj=>?_) (htr rfl)
   have hj4:=succS_in (br:=br) (i:=a) (hE.succ a0 a1 ▸ hj)
   exact ih j m1 m2 hj4.1 hj4.2 (λx hx=>e3 x (le_uses _ _ x (behind_has hj hx))) s2 s3 hpj
theorem getN_eq {μ μ':Int→Int}{a:Int}:∀ {n:Nat},(∀ x,a≤x→x < a+n→μ x=μ' x)→getN μ a n=getN μ' a n:=@λy_1=>@λy_2=>match @y_1,@y_2 with
 |0,x_1=>rfl
 |n+1,h=>by
  refine (?_:getN μ a n+μ (a+n) * 256 ^ n=getN μ' a n+μ' (a+n) * 256 ^ n)
  (refine rwI (getN_eq λx h1 h2=>h x h1 (by lia)) ?_;refine rwI (h (a+n) (by lia) (by lia)) ?_;rfl)
theorem layN_out {μ:Int→Int}{a v x:Int}:∀ {n:Nat},(x < a∨a+n≤x)→layN μ a v n x=μ x:=@λy_1=>@λy_2=>match @y_1,@y_2 with
 |0,x_1=>rfl
 |n+1,h=>by
  refine rwI layN_c ?_
  refine rwI (if_neg λe=>h.elim (λq=>Int.not_lt.mpr (Int.le_add_of_nonneg_right (Int.natCast_nonneg n)) (Int.lt_of_le_of_lt (Int.le_of_eq e.symm) q)) λq=>Int.not_lt.mpr q (Int.lt_of_le_of_lt (Int.le_of_eq e) (Int.add_lt_add_left (Int.ofNat_lt.mpr (Nat.lt_succ_self n)) a))) ?_
  exact layN_out (h.imp_right λq=>Int.le_trans (Int.add_le_add_left (Int.ofNat_le.mpr (Nat.le_succ n)) a) q)
theorem layN_in {μ:Int→Int}{a v:Int}{k:Nat}:∀ {n:Nat},k < n→layN μ a v n (a+k)=(v.fdiv (256 ^ k)).fmod 256:=@λy_1=>@λy_2=>match @y_1,@y_2 with
 |0,h=>by lia
 |n+1,h=>by
  refine rwI layN_c ?_
  by_cases e:k=n
  ·subst e;(refine rwI (if_pos rfl) ?_;rfl)
  ·refine rwI (if_neg (by lia)) ?_;exact layN_in (by lia)
noncomputable def okW (T:ISet) (v:Int):Prop:=v=0∨v=8192∨(T 0=true∧v=4096)∨(T 1=true∧v=4104)
noncomputable def okP (T:ISet) (v:Int):Prop:=okW T v∨(T 0=true∧v=4100)
noncomputable def Hid (T:ISet) (x:Int):Prop:=∃ s,0≤s∧s < 4∧T s=false∧baseS s≤x∧x < baseS s+sizeS s
noncomputable def MEq (T:ISet) (μ μ':Int→Int):Prop:=∀ x,¬ Hid T x→μ x=μ' x
noncomputable def GA (T:ISet) (v:Int):Prop:=∀ x,v≤x→x < v+4→¬ Hid T x∧(x < 4108∨4112≤x)
theorem hid_cases {T:ISet}{x:Int}(h:Hid T x):(T 0=false∧4096≤x∧x < 4104)∨(T 1=false∧4104≤x∧x < 4108)∨(T 2=false∧4108≤x∧x < 4112)∨(T 3=false∧4112≤x∧x < 4114):=by
 obtain⟨s,s0,s1,ht,h1,h2⟩:=h
 rcases i4 s0 s1 with rfl|rfl|rfl|rfl<;>dsimp [baseS,sizeS] at h1 h2
 ·exact .inl ⟨ht,by lia,by lia⟩
 ·exact .inr (.inl ⟨ht,by lia,by lia⟩)
 ·exact .inr (.inr (.inl ⟨ht,by lia,by lia⟩))
 ·exact .inr (.inr (.inr ⟨ht,by lia,by lia⟩))
theorem ga_P {T:ISet}{v:Int}(h:okP T v):GA T v:=λx h1 h2=>by
 unfold okP okW at h
 refine⟨λhh=>?_,?_⟩
 ·rcases hid_cases hh with⟨t,a,b⟩|⟨t,a,b⟩|⟨t,a,b⟩|⟨t,a,b⟩<;>rcases h with (h|h|⟨t',h⟩|⟨t',h⟩)|⟨t',h⟩<;>first|lia|(rw[t] at t';cases t')
 ·rcases h with (h|h|⟨t',h⟩|⟨t',h⟩)|⟨t',h⟩<;>lia
theorem ga_home {T:ISet}{h:Int}(hh:h=2∨h=3∨h=5)(ht:T (h - 2)=true):GA T (baseS (h - 2)):=λx h1 h2=>by
 rcases hh with rfl|rfl|rfl
 ·have b:baseS (2 - 2)=4096:=rfl
  rw[b] at h1 h2
  have ht:T 0=true:=ht
  refine⟨λq=>?_,by lia⟩
  rcases hid_cases q with⟨t,a,b⟩|⟨t,a,b⟩|⟨t,a,b⟩|⟨t,a,b⟩<;>first|lia|(rw[t] at ht;cases ht)
 ·have b:baseS (3 - 2)=4104:=rfl
  rw[b] at h1 h2
  have ht:T 1=true:=ht
  refine⟨λq=>?_,by lia⟩
  rcases hid_cases q with⟨t,a,b⟩|⟨t,a,b⟩|⟨t,a,b⟩|⟨t,a,b⟩<;>first|lia|(rw[t] at ht;cases ht)
 ·have b:baseS (5 - 2)=4112:=rfl
  rw[b] at h1 h2
  have ht:T 3=true:=ht
  refine⟨λq=>?_,by lia⟩
  rcases hid_cases q with⟨t,a,b⟩|⟨t,a,b⟩|⟨t,a,b⟩|⟨t,a,b⟩<;>first|lia|(rw[t] at ht;cases ht)
theorem MEq.get {T:ISet}{μ μ':Int→Int}(h:MEq T μ μ'){a:Int}(g:GA T a){n:Nat}(hn:n≤4):getN μ a n=getN μ' a n:=getN_eq λx h1 h2=>h x (g x h1 (by lia)).1
theorem MEq.lay {T:ISet}{μ μ':Int→Int}(h:MEq T μ μ')(a v:Int):∀ n:Nat,MEq T (layN μ a v n) (layN μ' a v n):=@λy_1=>match @y_1 with
 |0=>h
 |n+1=>λx hx=>by
  (refine rwI layN_c ?_;refine rwI layN_c ?_)
  by_cases e:x=a+n
  ·(refine rwI (if_pos e) ?_;refine rwI (if_pos e) ?_;rfl)
  ·(refine rwI (if_neg e) ?_;refine rwI (if_neg e) ?_);exact h.lay a v n x hx
theorem MEq.lay2 {T:ISet}{μ μ':Int→Int}(h:MEq T μ μ'){a v v':Int}(e:v=v'){n:Nat}:MEq T (layN μ a v n) (layN μ' a v' n):=e ▸ h.lay a v n
noncomputable def WI (T:ISet) (μ:Int→Int):Prop:=T 2=true→∃ v,okW T v∧∀ n:Nat,n < 4→μ (4108+n)=(v.fdiv (256 ^ n)).fmod 256
theorem WI.get {T:ISet}{μ:Int→Int}(h:WI T μ)(ht:T 2=true):okW T (getN μ 4108 4):=by
 obtain⟨v,hv,hb⟩:=h ht
 have e:getN μ 4108 4=getN (λx=>(v.fdiv (256 ^ (x - 4108).toNat)).fmod 256) 4108 4:=getN_eq λx h1 h2=>by
  have:=hb (x - 4108).toNat ((Int.toNat_lt (Int.sub_nonneg_of_le h1)).mpr (Int.sub_left_lt_of_lt_add h2))
  have e:(4108:Int)+((x - 4108).toNat:Nat)=x:=by (refine rwI (Int.toNat_of_nonneg (Int.sub_nonneg_of_le h1)) ?_;refine rwI (Int.add_comm ..) ?_;refine rwI (Int.sub_add_cancel ..) ?_;rfl)
  rw[e] at this;exact this
 refine rwI e ?_
 rcases hv with rfl|rfl|⟨t,rfl⟩|⟨t,rfl⟩
 ·exact .inl (by decide)
 ·exact .inr (.inl (by decide))
 ·exact .inr (.inr (.inl ⟨t,by decide⟩))
 ·exact .inr (.inr (.inr ⟨t,by decide⟩))
theorem WI.lay {T:ISet}{μ:Int→Int}(h:WI T μ){a:Int}(g:GA T a)(v:Int){n:Nat}(hn:n≤4):WI T (layN μ a v n):=λht=>by
 obtain⟨w,hw,hb⟩:=h ht
 refine⟨w,hw,λk hk=>?_⟩
 (rewrite [layN_out];refine rwI (hb k hk) ?_;rfl)
 by_cases h1:(4108:Int)+k < a
 ·exact .inl h1
 ·right
  by_cases h2:a+(n:Int)≤4108+k
  ·exact h2
  ·exfalso
   have:=(g (4108+k) (by lia) (by lia)).2
   lia
theorem WI.word {T:ISet}{μ:Int→Int}{v:Int}(hv:okW T v):WI T (layN μ 4108 v 4):=λx_=>⟨v,hv,λn hn=>layN_in hn⟩
noncomputable def KV (T:ISet) (A:Adr) (x v:Int):Prop:=(x=1→v=8192∨(T 0=true∧v=4096))∧(2≤x→x < 6→v=baseS (x - 2)∧A x=some (x - 2))∧(x=6→v=8192)∧(11≤x→x < 21→okP T v)
noncomputable def KI (T:ISet) (A:Adr) (κ:Int→Option Int):Prop:=∀ x v,κ x=some v→KV T A x v
section
variable {T:ISet}{A:Adr}{R:List Row}{κ:Int→Option Int}{μ μ':Int→Int}{tr:List AV}
theorem KI.k1 (K:KI T A κ){v:Int}(h:κ 1=some v):v=8192∨(T 0=true∧v=4096):=(K 1 v h).1 rfl
theorem KI.kh (K:KI T A κ){x:Int}(a:2≤x)(b:x < 6){v:Int}(h:κ x=some v):v=baseS (x - 2)∧A x=some (x - 2):=(K x v h).2.1 a b
theorem KI.k6 (K:KI T A κ){v:Int}(h:κ 6=some v):v=8192:=(K 6 v h).2.2.1 rfl
theorem KI.kf (K:KI T A κ){x:Int}(a:11≤x)(b:x < 21){v:Int}(h:κ x=some v):okP T v:=(K x v h).2.2.2 a b
theorem setK_in {κ:Int→Option Int}{P:Int→Int→Prop}(h:∀ x v,κ x=some v→P x v){d w:Int}(hd:0≤d→P d (w.fmod 4294967296)):∀ x v,setK κ d w x=some v→P x v:=by
 intro x v e
 unfold setK at e
 refine bcase (b:=decide (d ≥ 0)) (λhp=>?_) λhp=>?_
 ·rw[hp] at e;exact h x v e
 ·
  rw[hp] at e
  by_cases q:x=d
  ·exact Option.some.inj ((if_pos q).symm.trans e) ▸ q ▸ hd (of_decide_eq_true hp)
  ·exact h x v ((if_neg q).symm.trans e)
theorem KI.put (K:KI T A κ){d v:Int}(hd:KV T A d (v.fmod 4294967296)):KI T A (setK κ d v):=setK_in K λx_=>hd
theorem no_d {d:Int}(hd:d < 1∨(7≤d∧d < 11)):d≠1∧(2≤d→d < 6→False)∧d≠6∧(11≤d→False):=
 ⟨λe=>hd.elim (λq=>Int.ne_of_lt q e) λq=>absurd (e ▸ q.1:(7:Int)≤1) (by decide),λa b=>hd.elim (λq=>absurd (Int.lt_of_le_of_lt a q) (by decide)) λq=>absurd (Int.lt_of_le_of_lt q.1 b) (by decide),
  λe=>hd.elim (λq=>absurd (e ▸ q:(6:Int) < 1) (by decide)) λq=>absurd (e ▸ q.1:(7:Int)≤6) (by decide),λa=>hd.elim (λq=>absurd (Int.lt_of_le_of_lt a q) (by decide)) λq=>absurd (Int.lt_of_le_of_lt a q.2) (by decide)⟩
theorem KI.other (K:KI T A κ){d v:Int}(hd:d < 1∨(7≤d∧d < 11)):KI T A (setK κ d v):=
 K.put ⟨λe=>((no_d hd).1 e).elim,λa b=>((no_d hd).2.1 a b).elim,λe=>((no_d hd).2.2.1 e).elim,λa b=>((no_d hd).2.2.2 a).elim⟩
theorem okP_mod {T:ISet}{v:Int}(h:okP T v):okP T (v.fmod 4294967296):=by
 have:v.fmod 4294967296=v:=by
  unfold okP okW at h
  rcases h with (h|h|⟨_,h⟩|⟨_,h⟩)|⟨_,h⟩<;>(subst h;decide)
 refine rwI this ?_;exact h
theorem KI.fresh (K:KI T A κ){d v:Int}(hd:11≤d)(hv:okP T v):KI T A (setK κ d v):=
 K.put ⟨λe=>by lia,λa b=>by lia,λe=>by lia,λx_ x_=>okP_mod hv⟩
structure Tk (T:ISet)(A:Adr)(R:List Row):Prop where
 ok:AdrOk A
 good:∀ r∈R,RowG r
 use:∀ r∈R,∀ pl x s,(pl,Opd.r x)∈en 0 r.args→A x=some s→plainSt r pl s=false→T s=true
 slot:∀ s,0≤s→Row.slot (s+2) s∈R→A (s+2)=some s
 led:Row.slot 1 0∈R→T 0=true
variable (h:Tk T A R){r:Row}(hr:r∈R)(K:KI T A κ)
include h hr K
theorem Tk.home {pl x v:Int}(hu:(pl,Opd.r x)∈en 0 r.args)(hp:∀ s,plainSt r pl s=false)(x0:2≤x)(x1:x < 6)(hv:κ x=some v):v=baseS (x - 2)∧T (x - 2)=true:=
 ⟨(K.kh x0 x1 hv).1,h.use r hr pl x _ hu (K.kh x0 x1 hv).2 (hp _)⟩
theorem Tk.ptr {pl b v:Int}(hu:(pl,Opd.r b)∈en 0 r.args)(hp:∀ s,plainSt r pl s=false)(hb:b=1∨b=2∨b=3∨b=6)(hv:κ b=some v):okW T v:=by
 have ho:2≤b→b < 6→_:=λx0 x1=>h.home hr K hu hp x0 x1 hv
 rcases hb with e|e|e|e
 ·exact (K.k1 (e ▸ hv)).elim (λe=>.inr (.inl e)) λe=>.inr (.inr (.inl e))
 ·subst e;exact .inr (.inr (.inl (ho (by decide) (by decide)).symm))
 ·subst e;exact .inr (.inr (.inr (ho (by decide) (by decide)).symm))
 ·exact .inr (.inl (K.k6 (e ▸ hv)))
omit h hr
theorem acc_ga {x v:Int}(hh:x=1∨x=2∨x=3∨x=5∨x=6∨(11≤x∧x < 21))(hv:κ x=some v)(ht:2≤x→x < 6→T (x - 2)=true):GA T v:=by
 have hm:2≤x→x < 6→(x=2∨x=3∨x=5)→GA T v:=λa b c=>(K.kh a b hv).1 ▸ ga_home c (ht a b)
 rcases hh with e|e|e|e|e|e
 ·exact (K.k1 (e ▸ hv)).elim (λe=>ga_P (.inl (.inr (.inl e)))) λe=>ga_P (.inl (.inr (.inr (.inl e))))
 ·exact hm (by lia) (by lia) (.inl e)
 ·exact hm (by lia) (by lia) (.inr (.inl e))
 ·exact hm (by lia) (by lia) (.inr (.inr e))
 ·exact ga_P (.inl (.inr (.inl (K.k6 (e ▸ hv)))))
 ·exact ga_P (K.kf e.1 e.2 hv)
end
theorem base_fm {s:Int}(s0:0≤s)(s1:s < 4):(baseS s).fmod 4294967296=baseS s:=by
 rcases i4 s0 s1 with rfl|rfl|rfl|rfl<;>rfl
abbrev ST (T:ISet)(m m':Mc)(p:Bool×Mc):Prop:=p.1=true∧p.2.κ=m.κ∧p.2.tr=m.tr∧MEq T p.2.μ m'.μ∧WI T p.2.μ
abbrev SF (T:ISet)(A:Adr)(p q:Bool×Mc):Prop:=q.1=p.1∧q.2.κ=p.2.κ∧q.2.tr=p.2.tr∧MEq T p.2.μ q.2.μ∧(p.1=true→KI T A p.2.κ∧WI T p.2.μ)
abbrev SG (T:ISet)(A:Adr)(r:Row)(m m':Mc)(g:List Int):Prop:=(isSto A T r=true→ST T m m' (doRow m r g))∧(isSto A T r=false→SF T A (doRow m r g) (doRow m' r g))
section
variable {T:ISet}{A:Adr}{R:List Row}{κ:Int→Option Int}{μ μ':Int→Int}{tr:List AV}
theorem SG.no {r:Row}{m m':Mc}{g:List Int}(e:isSto A T r=false)(s:SF T A (doRow m r g) (doRow m' r g)):SG T A r m m' g:=⟨λq=>(Bool.false_ne_true (e.symm.trans q)).elim,λx_=>s⟩
theorem SG.st {a b:Opd}{w:Int}{f:Bool}{g0 g1:Int}(K:KI T A κ)(M:MEq T μ μ')(hw:WI T (layN μ g0 g1 w.toNat)):SF T A (doRow ⟨κ,μ,tr⟩ (.store a b w f) [g0,g1]) (doRow ⟨κ,μ',tr⟩ (.store a b w f) [g0,g1]):=
 ⟨rfl,rfl,rfl,M.lay _ _ _,λx_=>⟨K,hw⟩⟩
theorem ST.st {x:Int}{b:Opd}{w:Int}{f:Bool}{g0 g1:Int}(W:WI T μ)(M:MEq T μ μ')(x0:2≤x)(x1:x < 6)(e:g0=baseS (x - 2))(hT:T (x - 2)=false)(hp:plainSt (.store (.r x) b w f) 0 (x - 2)=true)(hw:0≤w):ST T ⟨κ,μ,tr⟩ ⟨κ,μ',tr⟩ (doRow ⟨κ,μ,tr⟩ (.store (.r x) b w f) [g0,g1]):=by
 cases f with
 |true=>exact (Bool.false_ne_true hp).elim
 |false=>
 have hs:w≤sizeS (x - 2):=of_decide_eq_true hp
 have ho:own (.r x) w=true:=by simp only[own,Bool.and_eq_true,decide_eq_true_eq];exact⟨x0,x1,hs⟩
 have hout:∀ y,¬ Hid T y→layN μ g0 g1 w.toNat y=μ y:=λy hy=>layN_out (by
  by_cases q:y < g0
  ·exact .inl q
  ·refine .inr (Int.not_lt.mp λq2=>hy ⟨x - 2,Int.sub_nonneg_of_le x0,Int.sub_right_lt_of_lt_add x1,hT,e ▸ Int.not_lt.mp q,Int.lt_of_lt_of_le q2 (by (refine rwI (Int.toNat_of_nonneg hw) ?_;refine rwI e ?_);exact Int.add_le_add_left hs _)⟩))
 refine⟨rfl,rfl,congrArg (λc=>pushIf (false || !c) tr (evS g0 w g1 false)) ho,λy hy=>(hout y hy).trans (M y hy),λht=>?_⟩
 obtain⟨v0,hv0,hb⟩:=W ht
 refine⟨v0,hv0,λn hn=>(hout _ λhh=>?_).trans (hb n hn)⟩
 rcases hid_cases hh with⟨t,a,b⟩|⟨t,a,b⟩|⟨t,a,b⟩|⟨t,a,b⟩<;>first|lia|exact Bool.false_ne_true (t.symm.trans ht)
theorem use_pl (h:Tk T A R){r:Row}(hr:r∈R){x s:Int}(hu:((0:Int),Opd.r x)∈en 0 r.args)(hA:A x=some s)(hT:T s=false):plainSt r 0 s=true:=by
 cases e:plainSt r 0 s with
 |true=>rfl
 |false=>exact (Bool.false_ne_true (hT.symm.trans (h.use r hr 0 x s hu hA e))).elim
theorem sto_of {A:Adr}{x s:Int}{b:Opd}{w:Int}{f:Bool}(h:A x=some s):isSto A T (.store (.r x) b w f) = !(T s):=by
 refine (?_:(match A x with|some s=>!(T s)|none=>false)=_)
 (refine rwI h ?_;rfl)
variable (h:Tk T A R)(K:KI T A κ)(W:WI T μ)(M:MEq T μ μ')
include h K W M
theorem sto_acc {x:Int}{r:Row}(hr:r∈R)(hh:x=1∨x=2∨x=3∨x=5∨x=6∨(11≤x∧x < 21))(ha:AccR x r){g:List Int}(hg:evalL κ r.args=some g):SG T A r ⟨κ,μ,tr⟩ ⟨κ,μ',tr⟩ g:=by
 cases ha with
 |st hv hw=>
  refine ev2 hg λg0 g1 h1 x_=>⟨λe=>?_,λe=>SG.st K M (W.lay (acc_ga K hh h1 λa b=>?_) _ (wok_le hw).2.2)⟩
  ·by_cases q:2≤x∧x < 6
   ·have ek:=K.kh q.1 q.2 h1
    have hT:T (x - 2)=false:=by rw[sto_of ek.2] at e;exact Bool.not_eq_true' _ ▸ e
    exact ST.st W M q.1 q.2 ek.1 hT (use_pl h hr (.head _) ek.2 hT) (wok_le hw).1
   ·refine ocase (o:=A x) (λeA=>?_) λs eA=>?_
    ·replace e:(match A x with|some s=>!(T s)|none=>false)=true:=e
     rw[eA] at e;exact (Bool.false_ne_true e).elim
    ·exact absurd ⟨(h.ok x s eA).1,(h.ok x s eA).2.1⟩ q
  ·rw[sto_of (K.kh a b h1).2] at e;exact Bool.not_eq_false' _ ▸ e
 |ld d0 d1 hw=>
  refine ev1 hg λg0 h1=>SG.no rfl ?_
  have hge:=M.get (acc_ga K hh h1 λa b=>(h.home hr K (pl:=0) (.head _) (λx_=>rfl) a b h1).2) (wok_le hw).2.2
  exact⟨rfl,congrArg (λv=>setK κ _ (sxV _ v _)) hge.symm,congrArg (λv=>pushIf _ tr (evL g0 _ v _)) hge.symm,M,λx_=>⟨K.other (.inr ⟨d0,d1⟩),W⟩⟩
theorem sto_fr {f:Int}{r:Row}(hr:r∈R)(f0:11≤f)(hf:Fr f r){g:List Int}(hg:evalL κ r.args=some g):SG T A r ⟨κ,μ,tr⟩ ⟨κ,μ',tr⟩ g:=by
 cases hf with
 |ld=>
  refine ev1 hg λg0 h1=>SG.no rfl ?_
  have e:=h.home hr K (pl:=0) (.head _) (λx_=>rfl) (by decide) (by decide) h1
  have e1:g0=4108:=e.1
  subst e1
  have hge:getN μ' 4108 4=getN μ 4108 4:=(getN_eq λx a b=>M x λhh=>by
   rcases hid_cases hh with⟨t,_,_⟩|⟨t,_,_⟩|⟨t,_,_⟩|⟨t,_,_⟩<;>first|lia|exact Bool.false_ne_true (t.symm.trans e.2)).symm
  exact⟨rfl,congrArg (setK κ f) hge,rfl,M,λx_=>⟨K.fresh f0 (.inl (W.get e.2)),W⟩⟩
 |cp hb=>
  exact ev1 hg λg0 h1=>SG.no rfl ⟨rfl,rfl,rfl,M,λx_=>⟨K.fresh f0 (.inl (h.ptr hr K (pl:=0) (.head _) (λx_=>rfl) (by lia) h1)),W⟩⟩
 |ad=>
  refine ev2 hg λg0 g1 h1 h2=>SG.no rfl ⟨rfl,rfl,rfl,M,λx_=>⟨K.fresh f0 (.inr ?_),W⟩⟩
  have e:=h.home hr K (pl:=0) (.head _) (λx_=>rfl) (by decide) (by decide) h1
  exact⟨e.2,by (refine rwI e.1 ?_;refine rwS (Option.some.inj h2) ?_);rfl⟩
omit h
theorem sf_bin {o:Bop}{d:Int}{x y:Opd}{g0 g1:Int}(hd:d < 1∨(7≤d∧d < 11)):SF T A (doRow ⟨κ,μ,tr⟩ (.bin o d x y) [g0,g1]) (doRow ⟨κ,μ',tr⟩ (.bin o d x y) [g0,g1]):=by
 refine (?_:SF T A (doBin ⟨κ,μ,tr⟩ o d y g0 g1) (doBin ⟨κ,μ',tr⟩ o d y g0 g1))
 unfold doBin
 cases isDivu o with
 |true=>
  refine (?_:SF T A (doDiv ⟨κ,μ,tr⟩ d y g0 g1) (doDiv ⟨κ,μ',tr⟩ d y g0 g1))
  unfold doDiv
  cases g1==0 with
  |true=>exact⟨rfl,rfl,rfl,M,λe=>(Bool.false_ne_true e).elim⟩
  |false=>exact⟨rfl,rfl,rfl,M,λx_=>⟨K.other hd,W⟩⟩
 |false=>exact⟨rfl,rfl,rfl,M,λx_=>⟨K.other hd,W⟩⟩
include h
theorem sto_do {r:Row}(hr:r∈R){g:List Int}(hg:evalL κ r.args=some g):SG T A r ⟨κ,μ,tr⟩ ⟨κ,μ',tr⟩ g:=by
 have G:=h.good r hr
 cases G with
 |acc hh ha=>exact sto_acc h K W M hr hh ha hg
 |st4 hb=>
  refine ev2 hg λg0 g1 h1 h3=>?_
  have ek:=K.kh (x:=4) (by decide) (by decide) h1
  refine⟨λe=>?_,λe=>SG.st K M ?_⟩
  ·have hT:T 2=false:=by rw[sto_of ek.2] at e;exact Bool.not_eq_true' _ ▸ e
   exact ST.st W M (by decide) (by decide) ek.1 hT (use_pl h hr (.head _) ek.2 hT) (by decide)
  ·refine rwI ek.1 ?_
   exact WI.word (h.ptr hr K (pl:=1) (.tail _ (.head _)) (λx_=>rfl) (by lia) h3)
 |fr f0 f1 hf=>exact sto_fr h K W M hr f0 hf hg
 |mv ha hb=>
  refine ev2 hg λg0 g1 h1 h3=>SG.no rfl ?_
  have w0:okW T g0:=h.ptr hr K (pl:=0) (.head _) (λx_=>rfl) (by lia) h1
  have hge:=M.get (ga_P (.inl (h.ptr hr K (pl:=1) (.tail _ (.head _)) (λx_=>rfl) (by lia) h3))) (Nat.le_refl _)
  exact⟨rfl,rfl,rfl,M.lay2 hge,λx_=>⟨K,W.lay (ga_P (.inl w0)) _ (Nat.le_refl _)⟩⟩
 |bin ho d0 d1 hx hy=>exact ev2 hg λg0 g1 x_ x_=>SG.no rfl (sf_bin K W M (.inr ⟨d0,d1⟩))
 |see hd hx=>exact ev1 hg λg0 x_=>SG.no rfl ⟨rfl,rfl,rfl,M,λx_=>⟨K.other (by lia),W⟩⟩
 |poke hd hb=>
  refine ev1 hg λg0 h1=>SG.no rfl ?_
  have w0:okW T g0:=h.ptr hr K (pl:=0) (.head _) (λx_=>rfl) (by lia) h1
  have hge:=M.get (ga_P (.inl w0)) (Nat.le_refl _)
  exact⟨rfl,congrArg (setK κ _) hge.symm,congrArg (λv=>tr++[evC true g0 v]) hge.symm,M.lay2 (congrArg (λv=>v * 5+1) hge),λx_=>⟨K.other (by lia),W.lay (ga_P (.inl w0)) _ (Nat.le_refl _)⟩⟩
 |@slot s s0 s1=>
  refine SG.no rfl ⟨rfl,rfl,rfl,M,λx_=>⟨K.put ?_,W⟩⟩
  have e2:s+2 - 2=s:=by lia
  refine⟨λe=>by lia,λa b=>?_,λe=>by lia,λa b=>by lia⟩
  refine rwI e2 ?_;exact⟨base_fm s0 s1,h.slot s s0 hr⟩
 |slot1=>refine SG.no rfl ⟨rfl,rfl,rfl,M,λx_=>⟨K.put (d:=1) (v:=baseS 0) ?_,W⟩⟩;exact⟨λx_=>.inr ⟨h.led hr,rfl⟩,λa=>by lia,λe=>by lia,λa=>by lia⟩
 |name=>refine SG.no rfl ⟨rfl,rfl,rfl,M,λx_=>⟨K.put (d:=6) (v:=8192) ?_,W⟩⟩;exact⟨λe=>by lia,λa b=>by lia,λx_=>rfl,λa=>by lia⟩
 |shr=>exact ev2 hg λg0 g1 x_ x_=>SG.no rfl (sf_bin K W M (.inl (by decide)))
end
theorem Tk.tail {T:ISet}{A:Adr}{r:Row}{l:List Row}(h:Tk T A (r::l)):Tk T A l:=⟨h.ok,λq hq=>h.good q (.tail _ hq),λq hq=>h.use q (.tail _ hq),λs s0 hs=>h.slot s s0 (.tail _ hs),λhs=>h.led (.tail _ hs)⟩
noncomputable def SR (T:ISet) (A:Adr) (o o':Option (Bool×Mc)):Prop:=∀ p,o=some p→∃ q,o'=some q∧SF T A p q
section
variable {T:ISet}{A:Adr}{m m':Mc}{p q:Bool×Mc}{f f':Mc→Option (Bool×Mc)}{o:Option (Bool×Mc)}
theorem ST.go (s:ST T m m' p)(k:∀ m1,m'.κ=m1.κ→m'.tr=m1.tr→MEq T m1.μ m'.μ→WI T m1.μ→SR T A (f m1) o)(e1:m'.κ=m.κ)(e2:m'.tr=m.tr):SR T A (goO f p) o:=by
 obtain⟨b,m1⟩:=p
 obtain⟨s1,s2,s3,s4,s5⟩:=s
 have s1:b=true:=s1
 subst s1
 exact k m1 (e1.trans s2.symm) (e2.trans s3.symm) s4 s5
theorem SF.go (s:SF T A p q)(k:∀ m1 m2,m2.κ=m1.κ→m2.tr=m1.tr→KI T A m1.κ→WI T m1.μ→MEq T m1.μ m2.μ→SR T A (f m1) (f' m2)):SR T A (goO f p) (goO f' q):=by
 obtain⟨b,m1⟩:=p
 obtain⟨b',m2⟩:=q
 obtain⟨s1,s2,s3,s4,s5⟩:=s
 have s1:b'=b:=s1
 subst s1
 cases b' with
 |false=>exact λp e=>⟨_,rfl,Option.some.inj e ▸ ⟨rfl,s2,s3,s4,λe=>(Bool.false_ne_true e).elim⟩⟩
 |true=>exact k m1 m2 s2 s3 (s5 rfl).1 (s5 rfl).2 s4
end
theorem sto_rows {T:ISet}{A:Adr}(l:List Row):∀ (m m':Mc),m'.κ=m.κ→m'.tr=m.tr→Tk T A l→KI T A m.κ→WI T m.μ→MEq T m.μ m'.μ→SR T A (rowsO m l) (rowsO m' (l.filter λr=>!isSto A T r)):=by
 induction l with
 |nil=>exact λm m' e1 e2 h K W M p e=>⟨_,rfl,Option.some.inj e ▸ ⟨rfl,e1,e2,M,λx_=>⟨K,W⟩⟩⟩
 |cons r l ih=>
  intro m m' e1 e2 h K W M
  cases e:evalL m.κ r.args with
  |none=>(refine rwI rowsO_cons ?_;refine rwI stepO_e ?_;refine rwI e ?_);exact λp e=>nomatch e
  |some g=>
   have s:SG T A r m m' g:=by
    obtain⟨κ',μ',tr'⟩:=m'
    have e1:κ'=m.κ:=e1
    have e2:tr'=m.tr:=e2
    (refine rwI e1 ?_;refine rwI e2 ?_)
    exact sto_do h K W M (.head _) e
   refine rwI (rowsO_c e) ?_
   cases hi:isSto A T r with
   |true=>
    rw[List.filter_cons_of_neg (by refine rwI hi ?_;decide)]
    refine (s.1 hi).go (λm1 q1 q2 q3 q4=>ih m1 m' q1 q2 h.tail ?_ q4 q3) e1 e2
    (refine rwS q1 ?_;refine rwI e1 ?_);exact K
   |false=>
    rw[List.filter_cons_of_pos (by refine rwI hi ?_;rfl),rowsO_c (g:=g) (by refine rwI e1 ?_;exact e)]
    exact (s.2 hi).go λm1 m2 q1 q2 q3 q4 q5=>ih m1 m2 q1 q2 h.tail q3 q4 q5
theorem endO_eq {R R':Int→List Row}{E:Ens}{n:Nat}{m m':Mc}(hκ:m'.κ=m.κ)(ht:m'.tr=m.tr)(ho:getN m'.μ 8192 8=getN m.μ 8192 8){v:AV}(x:End)(go:∀ j,j∈x.succ→play R E n j m=some v→play R' E n j m'=some v)(h:endO R E n m x=some v):endO R' E n m' x=some v:=by
 cases x with
 |give r=>exact h ▸ (by refine (?_:(m'.κ r).map (resG m')=(m.κ r).map (resG m));rw[hκ,show resG m'=resG m from funext λx=>by (rewrite [resG,resG];refine rwI ho ?_;refine rwI ht ?_;rfl)])
 |jump t=>exact go t (.head _) h
 |branch r x y=>
  refine (?_:brO R' E n m' x y (m'.κ r)=_)
  refine rwI hκ ?_
  have h:brO R E n m x y (m.κ r)=some v:=h
  revert h
  cases m.κ r with
  |none=>exact λh=>none_some h
  |some val=>
   refine go _ ?_
   cases val==0<;>(first|exact List.mem_cons_self|exact .tail _ (.head _))
theorem sto_play {T:ISet}{A:Adr}{E:Ens}{br:Bool}(hE:EndsOk br E){R R':Int→List Row}(hT:∀ i,0≤i→i < 4→Tk T A (R i))(hR:∀ i,0≤i→i < 4→R' i=(R i).filter λr=>!isSto A T r){v:AV}(n:Nat) :
  ∀ (a:Int) (m m':Mc),m'.κ=m.κ→m'.tr=m.tr→0≤a→a < 4→KI T A m.κ→WI T m.μ→MEq T m.μ m'.μ→play R E n a m=some v→play R' E n a m'=some v:=by
 induction n with
 |zero=>exact λa m m' e1 e2 x_ x_ x_ x_ x_ hp=>hp ▸ (congrArg (λt=>some (AV.tup [.str "long",.int 0,.lst t])) e2)
 |succ n ih=>
  intro a m m' e1 e2 a0 a1 K W M hp
  have s:=sto_rows (R a) m m' e1 e2 (hT a a0 a1) K W M
  rw[← hR a a0 a1] at s
  refine ocase (o:=rowsO m (R a)) (λe=>?_) λp e=>?_
  ·rw[play_succ,e] at hp;exact none_some hp
  ·
   obtain⟨b,m1⟩:=p
   obtain⟨⟨b',m2⟩,eq,s1,s2,s3,s4,s5⟩:=s _ e
   have s1:b'=b:=s1
   have s2:m2.κ=m1.κ:=s2
   have s3:m2.tr=m1.tr:=s3
   have hobj:getN m2.μ 8192 8=getN m1.μ 8192 8:=(getN_eq λx a b=>s4 x λhh=>by
    rcases hid_cases hh with⟨_,_,_⟩|⟨_,_,_⟩|⟨_,_,_⟩|⟨_,_,_⟩<;>lia).symm
   subst s1
   cases b' with
   |false=>rw[play_f e] at hp;exact hp ▸ (by (refine rwI (play_f eq) ?_;rewrite [resD,resD];refine rwI hobj ?_;refine rwI s3 ?_;rfl))
   |true=>
    rw[play_t e] at hp
    refine rwI (play_t eq) ?_
    refine endO_eq s2 s3 hobj (E a) (λj hj=>?_) hp
    have hj4:=succS_in (br:=br) (i:=a) (hE.succ a0 a1 ▸ hj)
    exact ih j m1 m2 s2 s3 hj4.1 hj4.2 (s5 rfl).1 (s5 rfl).2 s4
theorem fold_keep {σ α:Type}{f:σ→α→σ}{Q:σ→Prop}:∀ {l:List α}{s:σ},(∀ s a,a∈l→Q s→Q (f s a))→Q s→Q (l.foldl f s):=@λy_1=>@λy_2=>@λy_3=>@λy_4=>match @y_1,@y_2,@y_3,@y_4 with
 |[],x_1,x_2,h=>h
 |a::l,s,hf,h=>fold_keep (l:=l) (λs b hb=>hf s b (.tail _ hb)) (hf s a (.head _) h)
theorem fold_hit {σ α:Type}{f:σ→α→σ}{Q:σ→Prop}{a:α}:∀ {l:List α}{s:σ},a∈l→(∀ s,Q (f s a))→(∀ s b,Q s→Q (f s b))→Q (l.foldl f s):=@λy_1=>@λy_2=>@λy_3=>@λy_4=>@λy_5=>match @y_1,@y_2,@y_3,@y_4,@y_5 with
 |b::l,s,hm,h1,h2=>by
  rcases List.mem_cons.mp hm with e|hm
  ·subst e;exact fold_keep (l:=l) (s:=f s a) (λs b x_=>h2 s b) (h1 s)
  ·exact fold_hit (l:=l) hm h1 h2
theorem mem4 {i:Int}(i0:0≤i)(i1:i < 4):i∈([0,1,2,3]:List Int):=by
 rcases i4 i0 i1 with rfl|rfl|rfl|rfl<;>decide
theorem mem4' {i:Int}(h:i∈([0,1,2,3]:List Int)):0≤i∧i < 4:=by simp at h;lia
theorem addS_has (m:ISet)(s:Int):addS m s s=true:=by simp[addS]
theorem addS_keep {m:ISet}{s x:Int}(h:m x=true):addS m s x=true:=by simp[addS,h]
theorem addS_inv {m:ISet}{s x:Int}(h:addS m s x=true):m x=true∨x=s:=by
 simp only[addS,Bool.or_eq_true,beq_iff_eq] at h;exact h
section
variable {A:Adr}{P:Prg}{E:Ens}{s:Int}
theorem addOpd_keep {r:Row}{m:ISet}{p:Int×Opd}(h:m s=true):addOpd A r m p s=true:=by
 obtain⟨pl,o⟩:=p
 cases o with
 |k v=>exact h
 |r x=>
  simp only[addOpd]
  cases A x with
  |none=>exact h
  |some t=>
   simp only
   cases plainSt r pl t with
   |true=>exact h
   |false=>exact addS_keep h
theorem addEndO_keep {m:ISet}{o:Opd}(h:m s=true):addEndO A m o s=true:=by
 cases o with
 |k v=>exact h
 |r x=>
  simp only[addEndO]
  cases A x with
  |none=>exact h
  |some t=>exact addS_keep h
theorem addRow_keep {m:ISet}{p:Nat×Row}(h:m s=true):addRow A m p s=true:=fold_keep (Q:=λm:ISet=>m s=true) (λm a x_ hm=>addOpd_keep hm) h
theorem takB_keep {m:ISet}{i:Int}(h:m s=true):takB A P E m i s=true:=
 fold_keep (Q:=λm:ISet=>m s=true) (λm a x_ hm=>addEndO_keep hm) (fold_keep (Q:=λm:ISet=>m s=true) (λm a x_ hm=>addRow_keep hm) h)
theorem takT_keep {m:ISet}(h:m s=true):takT A P E m s=true:=fold_keep (Q:=λm:ISet=>m s=true) (λm a x_ hm=>takB_keep hm) h
theorem takT_use {m:ISet}{i:Int}(i0:0≤i)(i1:i < 4){r:Row}(hr:r∈rowsOf P i){pl x:Int}(hu:(pl,Opd.r x)∈en 0 r.args)(hA:A x=some s)(hp:plainSt r pl s=false):takT A P E m s=true:=by
 obtain⟨⟨a,r'⟩,hm,rfl⟩:=List.mem_map.mp hr
 refine fold_hit (Q:=λm:ISet=>m s=true) (mem4 i0 i1) (λm=>?_) λm j hm=>takB_keep hm
 refine fold_keep (Q:=λm:ISet=>m s=true) (λm a x_ hm=>addEndO_keep hm) ?_
 refine fold_hit (Q:=λm:ISet=>m s=true) hm (λm=>?_) λm j hm=>addRow_keep hm
 refine fold_hit (Q:=λm:ISet=>m s=true) hu (λm=>?_) λm j hm=>addOpd_keep hm
 have hp:plainSt r' pl s=false:=hp
 simp only[addOpd,hA,hp]
 exact addS_has ..
theorem takT_inv {m:ISet}(h:takT A P E m s=true):m s=true∨(∃ i,0≤i∧i < 4∧∃ r∈rowsOf P i,∃ pl x,(pl,Opd.r x)∈en 0 r.args∧A x=some s∧plainSt r pl s=false)∨∃ i,0≤i∧i < 4∧∃ x,.r x∈(E i).args∧A x=some s:=by
 let Q:ISet→Prop:=λm'=>m' s=true→m s=true∨(∃ i,0≤i∧i < 4∧∃ r∈rowsOf P i,∃ pl x,(pl,Opd.r x)∈en 0 r.args∧A x=some s∧plainSt r pl s=false)∨∃ i,0≤i∧i < 4∧∃ x,.r x∈(E i).args∧A x=some s
 have key:Q (takT A P E m):=by
  refine fold_keep (Q:=Q) (λm1 i hi h1=>?_) (λh=>.inl h)
  obtain⟨i0,i1⟩:=mem4' hi
  refine fold_keep (Q:=Q) (λm2 o ho h2=>?_) (fold_keep (Q:=Q) (λm2 p hp h2=>?_) h1)
  ·intro h3
   cases o with
   |k v=>exact h2 h3
   |r x=>
    simp only[addEndO] at h3
    refine ocase (o:=A x) (λhA=>?_) λt hA=>?_
    ·rw[hA] at h3;exact h2 h3
    ·
     rw[hA] at h3
     rcases addS_inv h3 with h3|rfl
     ·exact h2 h3
     ·exact .inr (.inr ⟨i,i0,i1,x,ho,hA⟩)
  ·refine fold_keep (Q:=Q) (λm3 q hq h4=>?_) h2
   obtain⟨pl,o⟩:=q
   intro h3
   cases o with
   |k v=>exact h4 h3
   |r x=>
    simp only[addOpd] at h3
    refine ocase (o:=A x) (λhA=>?_) λt hA=>?_
    ·rw[hA] at h3;exact h4 h3
    ·
     rw[hA] at h3
     simp only at h3
     cases hpl:plainSt p.2 pl t with
     |true=>rw[hpl] at h3;exact h4 h3
     |false=>
      rw[hpl] at h3
      rcases addS_inv h3 with h3|rfl
      ·exact h4 h3
      ·exact .inr (.inl ⟨i,i0,i1,p.2,List.mem_map.mpr ⟨p,hp,rfl⟩,pl,x,hq,hA,hpl⟩)
 exact key h
end
section
variable {P:Int→List Row}{E:Ens}{x:Int}
theorem swO_nm {r:Row}{s:NS}{p:Int×Opd}(h:s.nm x=true):(swO r s p).nm x=true:=by
 unfold swO
 split
 ·exact h
 ·split
  ·exact addS_keep h
  ·exact h
theorem swO_st {r:Row}{s:NS}{p:Int×Opd}(h:s.st x=true):(swO r s p).st x=true:=by
 unfold swO
 split
 ·exact addS_keep h
 ·split
  ·exact h
  ·exact h
theorem swR_nm {r:Row}{s:NS}(h:s.nm x=true):(swR s r).nm x=true:=fold_keep (Q:=λs:NS=>s.nm x=true) (λs a x_ h=>swO_nm h) h
theorem swR_st {r:Row}{s:NS}(h:s.st x=true):(swR s r).st x=true:=fold_keep (Q:=λs:NS=>s.st x=true) (λs a x_ h=>swO_st h) h
theorem swB_nm {i:Int}{s:NS}(h:s.nm x=true):(swB P E s i).nm x=true:=
 fold_keep (Q:=λs:NS=>s.nm x=true) (λs a x_ h=>addS_keep h) (fold_keep (Q:=λs:NS=>s.nm x=true) (λs a x_ h=>swR_nm h) h)
theorem swB_st {i:Int}{s:NS}(h:s.st x=true):(swB P E s i).st x=true:=
 fold_keep (Q:=λs:NS=>s.st x=true) (λs a x_ h=>h) (fold_keep (Q:=λs:NS=>s.st x=true) (λs a x_ h=>swR_st h) h)
theorem sw_use {i:Int}(i0:0≤i)(i1:i < 4){r:Row}(hr:r∈P i){pl:Int}(hu:(pl,Opd.r x)∈en 0 r.args)(ho:ownSt r pl=false):(swA P E).nm x=true:=by
 refine fold_hit (Q:=λs:NS=>s.nm x=true) (mem4 i0 i1) (λm=>?_) λm j hm=>swB_nm hm
 refine fold_keep (Q:=λs:NS=>s.nm x=true) (λm a x_ hm=>addS_keep hm) ?_
 refine fold_hit (Q:=λs:NS=>s.nm x=true) hr (λm=>?_) λm j hm=>swR_nm hm
 refine fold_hit (Q:=λs:NS=>s.nm x=true) hu (λm=>?_) λm j hm=>swO_nm hm
 simp only[swO,ho]
 exact addS_has ..
theorem sw_own {i:Int}(i0:0≤i)(i1:i < 4){r:Row}(hr:r∈P i){pl:Int}(hu:(pl,Opd.r x)∈en 0 r.args)(ho:ownSt r pl=true):(swA P E).st x=true:=by
 refine fold_hit (Q:=λs:NS=>s.st x=true) (mem4 i0 i1) (λm=>?_) λm j hm=>swB_st hm
 refine fold_keep (Q:=λs:NS=>s.st x=true) (λm a x_ hm=>hm) ?_
 refine fold_hit (Q:=λs:NS=>s.st x=true) hr (λm=>?_) λm j hm=>swR_st hm
 refine fold_hit (Q:=λs:NS=>s.st x=true) hu (λm=>?_) λm j hm=>swO_st hm
 simp only[swO,ho]
 exact addS_has ..
theorem sw_end {i:Int}(i0:0≤i)(i1:i < 4)(hu:Opd.r x∈(E i).args):(swA P E).nm x=true:=by
 refine fold_hit (Q:=λs:NS=>s.nm x=true) (mem4 i0 i1) (λm=>?_) λm j hm=>swB_nm hm
 exact fold_hit (Q:=λs:NS=>s.nm x=true) hu (λm=>addS_has ..) λm j hm=>addS_keep hm
theorem sw_inv (h:(swA P E).st x=true):∃ i,0≤i∧i < 4∧∃ r∈P i,∃ pl o,(pl,o)∈en 0 r.args∧ownSt r pl=true∧opdN o=x:=by
 let Q:NS→Prop:=λs=>s.st x=true→∃ i,0≤i∧i < 4∧∃ r∈P i,∃ pl o,(pl,o)∈en 0 r.args∧ownSt r pl=true∧opdN o=x
 have key:Q (swA P E):=by
  refine fold_keep (Q:=Q) (λm1 i hi h1=>?_) (λh=>by cases h)
  obtain⟨i0,i1⟩:=mem4' hi
  refine fold_keep (Q:=Q) (λm2 o ho h2=>h2) (fold_keep (Q:=Q) (λm2 r hr h2=>?_) h1)
  refine fold_keep (Q:=Q) (λm3 q hq h4=>?_) h2
  obtain⟨pl,o⟩:=q
  intro h3
  unfold swO at h3
  cases ho:ownSt r pl with
  |true=>
   simp only[ho] at h3
   rcases addS_inv h3 with h3|e
   ·exact h4 h3
   ·exact⟨i,i0,i1,r,hr,pl,o,hq,ho,e.symm⟩
  |false=>
   simp only[ho] at h3
   cases o with
   |k v=>exact h4 h3
   |r y=>exact h4 h3
 exact key h
end
theorem mem_allP {P:Prg}{p:Nat×Row}:p∈allP P↔∃ i,0≤i∧i < 4∧p∈P i:=by
 unfold allP
 refine rwI (propext List.mem_flatMap) ?_
 constructor
 ·rintro⟨i,hi,hp⟩;exact⟨i,(mem4' hi).1,(mem4' hi).2,hp⟩
 ·rintro⟨i,a,b,hp⟩;exact⟨i,mem4 a b,hp⟩
theorem hasD_slot {P:Prg}{x:Int}:hasD (slotP P) x=true↔∃ i s,0≤i∧i < 4∧.slot x s∈rowsOf P i:=by
 unfold hasD
 refine rwI (propext List.any_eq_true) ?_
 constructor
 ·rintro⟨⟨a,r⟩,hp,hd⟩
  obtain⟨h1,h2⟩:=List.mem_filter.mp hp
  obtain⟨i,a0,a1,hm⟩:=mem_allP.mp h1
  cases r with
  |slot y s=>
   have hd:y=x:=by simpa[Row.dst] using hd
   subst hd
   exact⟨i,s,a0,a1,List.mem_map.mpr ⟨_,hm,rfl⟩⟩
  |_=>exact (Bool.false_ne_true h2).elim
 ·rintro⟨i,s,a0,a1,hm⟩
  obtain⟨⟨a,r⟩,hm,he⟩:=List.mem_map.mp hm
  have he:r=.slot x s:=he
  subst he
  exact⟨_,List.mem_filter.mpr ⟨mem_allP.mpr ⟨i,a0,a1,hm⟩,rfl⟩,by simp[Row.dst]⟩
set_option tactic.hygienic true in
theorem adrOf_some {P:Prg}{x s:Int}(h:adrOf P x=some s):x≠1∧s=x - 2∧hasD (slotP P) x=true:=by
 unfold adrOf at h
 split at h
 ·rename_i hc;(replace h:=Option.some.inj h;subst h);exact⟨hc.1,rfl,hc.2⟩
 ·cases h
theorem adrOf_has {P:Prg}{x s i:Int}(hx:x≠1)(i0:0≤i)(i1:i < 4)(h:.slot x s∈rowsOf P i):adrOf P x=some (x - 2):=by
 unfold adrOf
 (refine rwI (if_pos ⟨hx,hasD_slot.mpr ⟨i,s,i0,i1,h⟩⟩) ?_;rfl)
noncomputable def Good (P:Prg):Prop:=∀ i,0≤i→i < 4→∀ r∈rowsOf P i,RowG r
theorem adrOf_adr {P:Prg}(hg:Good P):AdrOk (adrOf P):=λx s h=>by
 obtain⟨h1,h2,h3⟩:=adrOf_some h
 obtain⟨i,t,i0,i1,hm⟩:=hasD_slot.mp h3
 rcases (hg i i0 i1 _ hm).slotd with⟨a,b,c⟩|⟨a,b⟩
 ·exact⟨by refine rwI a ?_;exact Int.le_add_of_nonneg_left b,by refine rwI a ?_;exact Int.add_lt_add_right c 2,h2⟩
 ·exact absurd a h1
theorem Sub.mem {l w:List Row}(h:Sub l w):∀ r∈l,∃ q∈w,r=q∨r=q.drop:=by
 induction h with
 |nil=>intro r hr;cases hr
 |keep hk _ ih=>
  intro r hr
  rcases List.mem_cons.mp hr with rfl|hr
  ·exact⟨_,.head _,hk⟩
  ·obtain⟨q,hq,e⟩:=ih r hr;exact⟨q,.tail _ hq,e⟩
 |skip _ ih=>intro r hr;obtain⟨q,hq,e⟩:=ih r hr;exact⟨q,.tail _ hq,e⟩
theorem Sub.slot {l w:List Row}(h:Sub l w){x s:Int}(hm:.slot x s∈l):.slot x s∈w:=by
 obtain⟨q,hq,e⟩:=h.mem _ hm
 rcases e with e|e
 ·refine rwI e ?_;exact hq
 ·cases q<;>first|exact e ▸ hq|exact nomatch e
theorem tk_of {P P1:Prg}{E:Ens}(hg:Good P)(hs:∀ i,0≤i→i < 4→Sub (rowsOf P1 i) (rowsOf P i)){i:Int}(i0:0≤i)(i1:i < 4):Tk (takT (adrOf P) P1 E (tak0 P)) (adrOf P) (rowsOf P1 i):=by
 refine⟨adrOf_adr hg,(hs i i0 i1).good (hg i i0 i1),λr hr pl x s hu hA hp=>takT_use i0 i1 hr hu hA hp,λs s0 hm=>?_,λhm=>?_⟩
 ·refine rwI (adrOf_has (by lia) i0 i1 ((hs i i0 i1).slot hm)) ?_
  congr 1;lia
 ·refine takT_keep ?_
  have:=hasD_slot.mpr ⟨i,0,i0,i1,(hs i i0 i1).slot hm⟩
  simp[tak0,this]
theorem addD_inv {S:ISet}{r:Row}{x:Int}(h:addD S r x=true):S x=true∨(x=r.dst∧0≤r.dst):=by
 unfold addD at h
 cases hd:decide (r.dst ≥ 0) with
 |true=>rw[hd] at h;exact (addS_inv h).imp id λe=>⟨e,of_decide_eq_true hd⟩
 |false=>rw[hd] at h;exact .inl h
theorem addD_dst {S:ISet}{r:Row}(h:0≤r.dst):addD S r r.dst=true:=by
 unfold addD
 have:decide (r.dst ≥ 0)=true:=decide_eq_true h
 refine rwI this ?_;exact addS_has ..
theorem uses_keep {l:List Opd}{m:ISet}{x:Int}(h:m x=true):uses l m x=true:=by simp[uses,h]
theorem drop_args (r:Row):r.drop.args=r.args:=by cases r<;>rfl
theorem live_cons (A:Adr)(m:ISet)(r:Row)(l:List Row):liveRows A (r::l) m=liveStep A r (liveRows A l m):=rfl
theorem da_dce {A:Adr}{m:ISet}(hm:∀ x,m x=true→0≤x):∀ (l:List Row)(S S':ISet),(∀ r∈l,RegsOk r.args)→(∀ x,S x=true→liveRows A l m x=true→S' x=true)→DaRows l S→DaRows (sweepRows A l m) S'∧∀ x,afterD l S x=true→m x=true→afterD (sweepRows A l m) S' x=true:=@λy_1=>@λy_2=>@λy_3=>@λy_4=>@λy_5=>@λy_6=>match @y_1,@y_2,@y_3,@y_4,@y_5,@y_6 with
 |[],S,S',x_1,h,hd=>⟨trivial,λx a b=>h x a b⟩
 |r::l,S,S',hl,h,hd=>by
  have hl':∀ r∈l,RegsOk r.args:=λq hq=>hl q (.tail _ hq)
  obtain⟨d1,d2⟩:=hd
  have nn:=@live_nonneg A m hm l hl'
  refine rwI (sweep_cons ..) ?_
  rw[live_cons] at h
  unfold liveStep at h
  cases h1:liveRows A l m r.dst with
  |true=>
   rw[h1] at h
   simp only at h ⊢
   have ih:=da_dce (A:=A) hm l (addD S r) (addD S' r) hl' (λx a b=>by
    by_cases e:x=r.dst
    ·subst e;exact addD_dst (nn _ h1)
    ·rcases addD_inv a with a|⟨a,_⟩
     ·refine le_addD _ _ x (h x a (uses_keep ?_))
      simp[b,e]
     ·exact absurd a e) d2
   exact⟨⟨λx hx=>h x (d1 x hx) (uses_has hx),ih.1⟩,ih.2⟩
  |false=>
   rw[h1] at h
   simp only at h ⊢
   have ne:∀ x,liveRows A l m x=true→x≠r.dst:=λx hx e=>by rw[e,h1] at hx;cases hx
   cases h2:isFree A r with
   |true=>
    rw[h2] at h
    simp only at h ⊢
    exact da_dce (A:=A) hm l (addD S r) S' hl' (λx a b=>by
     rcases addD_inv a with a|⟨a,_⟩
     ·exact h x a b
     ·exact absurd a (ne x b)) d2
   |false=>
    rw[h2] at h
    simp only at h ⊢
    have ih:=da_dce (A:=A) hm l (addD S r) (addD S' r.drop) hl' (λx a b=>by
     rcases addD_inv a with a|⟨a,_⟩
     ·exact le_addD _ _ x (h x a (uses_keep b))
     ·exact absurd a (ne x b)) d2
    exact⟨⟨λx hx=>h x (d1 x (by rw[drop_args] at hx;exact hx)) (uses_has (by rw[drop_args] at hx;exact hx)),ih.1⟩,ih.2⟩
theorem da_filter {p:Row→Bool}:∀ (l:List Row)(S:ISet),(∀ r∈l,p r=false→r.dst < 0)→DaRows l S→DaRows (l.filter p) S∧afterD (l.filter p) S=afterD l S:=@λy_1=>@λy_2=>@λy_3=>@λy_4=>match @y_1,@y_2,@y_3,@y_4 with
 |[],S,x_1,h=>⟨trivial,rfl⟩
 |r::l,S,hp,h=>by
  have hp':∀ r∈l,p r=false→r.dst < 0:=λq hq=>hp q (.tail _ hq)
  obtain⟨d1,d2⟩:=h
  refine rwI List.filter_cons ?_
  cases e:p r with
  |true=>
   simp only[if_true]
   obtain⟨a,b⟩:=da_filter l _ hp' d2
   exact⟨⟨d1,a⟩,b⟩
  |false=>
   simp only[Bool.false_eq_true,if_false]
   have hd:addD S r=S:=by
    unfold addD
    have:decide (r.dst ≥ 0)=false:=decide_eq_false (by have:=hp r (.head _) e;lia)
    (refine rwI this ?_;rfl)
   rw[hd] at d2
   obtain⟨a,b⟩:=da_filter l _ hp' d2
   refine⟨a,?_⟩
   refine rwI b ?_
   refine (?_:_=afterD l (addD S r))
   (refine rwI hd ?_;rfl)
theorem isSto_dst {A:Adr}{T:ISet}{r:Row}(h:(!isSto A T r)=false):r.dst < 0:=by
 cases r with
 |store a b w f=>exact (by decide:(-1:Int) < 0)
 |_=>exact (Bool.false_ne_true h.symm).elim
theorem rowsOf_noSto {A:Adr}{T:ISet}{P1 P2:Prg}{i:Int}(h:P2 i=noSto A T (P1 i)):rowsOf P2 i=(rowsOf P1 i).filter λr=>!isSto A T r:=by
 unfold rowsOf
 refine rwI h ?_
 unfold noSto
 refine rwI List.filter_map ?_
 rfl
structure RoundR (P:Prg)(E:Ens)(P2:Prg):Prop where
 ex:∃ (P1:Prg) (L:Int→ISet) (T:ISet),(∀ i,0≤i→i < 4→L i=liveF (adrOf P) P E L i)∧(∀ i r,L i r=true→0≤r) ∧
  (∀ i,0≤i→i < 4→rowsOf P1 i=sweptP (adrOf P) P E L i)∧T=takT (adrOf P) P1 E (tak0 P)∧(∀ i,0≤i→i < 4→rowsOf P2 i=(rowsOf P1 i).filter λr=>!isSto (adrOf P) T r)
theorem Used.nn {P:Prg}{E:Ens}(hg:Good P)(hx:∀ i,RegsOk (E i).args){r:Int}(h:Used P E r):0≤r:=by
 obtain⟨i,i0,i1,h|⟨p,hp,h⟩⟩:=h
 ·exact (hx i r h).1
 ·exact ((hg i i0 i1 p.2 (List.mem_map.mpr ⟨p,hp,rfl⟩)).regs r h).1
theorem Round.r {P P2:Prg}{E:Ens}{c:Bool}(h:Round P E P2 c)(hg:Good P)(hx:∀ i,RegsOk (E i).args):RoundR P E P2:=by
 obtain⟨P1,L,h1,h2,h3,h4,_⟩:=h.ex
 exact⟨P1,L,_,h1,λi r hr=>Used.nn hg hx (h2 i r hr),λi a b=>(h3 i a b).2,rfl,λi a b=>rowsOf_noSto (h4 i a b)⟩
theorem behind_inv {L:Int→ISet}{x:End}{r:Int}(h:behind L x r=true):∃ j∈x.succ,L j r=true:=List.any_eq_true.mp h
theorem uses_inv {l:List Opd}{m:ISet}{x:Int}(h:uses l m x=true):m x=true∨.r x∈l:=by
 simp only[uses,Bool.or_eq_true,List.contains_iff_mem] at h;exact h
theorem m_nn {E:Ens}{L:Int→ISet}(hx:∀ i,RegsOk (E i).args)(hL:∀ i r,L i r=true→0≤r){i x:Int}(h:uses (E i).args (behind L (E i)) x=true):0≤x:=by
 rcases uses_inv h with h|h
 ·obtain⟨j,_,h⟩:=behind_inv h;exact hL j x h
 ·exact (hx i x h).1
theorem kk_step {P P':Prg}{br:Bool}{L:Int→ISet}{m:Int→ISet}(hm:∀ i j,0≤i→i < 4→j∈succS br i→∀ x,L j x=true→m i x=true)
  (hs:∀ i,0≤i→i < 4→(∀ x,kkF P br i x=true→L i x=true→kkF P' br i x=true)→∀ x,afterD (rowsOf P i) (kkF P br i) x=true→m i x=true→afterD (rowsOf P' i) (kkF P' br i) x=true) :
  ∀ i,0≤i→i < 4→∀ x,kkF P br i x=true→L i x=true→kkF P' br i x=true:=by
 have c0:∀ x,kkF P br 0 x=true→L 0 x=true→kkF P' br 0 x=true:=λx a x_=>a
 have st:∀ i j,0≤i→i < 4→okPair br i j=true→j∈succS br i→(∀ x,kkF P br i x=true→L i x=true→kkF P' br i x=true)→∀ x,kkF P br j x=true→L j x=true→kkF P' br j x=true:=λi j a b hp hj hi x h1 h2=>by
  rw[okPair_kk hp] at h1 ⊢
  exact hs i a b hi x h1 (hm i j a b hj x h2)
 have c1:=st 0 1 (by decide) (by decide) (by rfl) (by simp[succS]) c0
 have c2:=st 1 2 (by decide) (by decide) (by simp[okPair]) (by cases br<;>simp[succS]) c1
 have c3:∀ x,kkF P br 3 x=true→L 3 x=true→kkF P' br 3 x=true:=by
  cases br with
  |true=>exact st 1 3 (by decide) (by decide) (by simp[okPair]) (by simp[succS]) c1
  |false=>exact st 2 3 (by decide) (by decide) (by simp[okPair]) (by simp[succS]) c2
 intro i a b
 rcases i4 a b with rfl|rfl|rfl|rfl
 ·exact c0
 ·exact c1
 ·exact c2
 ·exact c3
theorem da_round {P P2:Prg}{E:Ens}{br:Bool}(hE:EndsOk br E)(hg:Good P)(hx:∀ i,RegsOk (E i).args)(h:RoundR P E P2)(hda:DaAll P E br):DaAll P2 E br:=by
 obtain⟨P1,L,T,h1,h2,h3,rfl,h5⟩:=h.ex
 have one:∀ i,0≤i→i < 4→(∀ x,kkF P br i x=true→L i x=true→kkF P2 br i x=true)→DaRows (rowsOf P2 i) (kkF P2 br i)∧∀ x,afterD (rowsOf P i) (kkF P br i) x=true→uses (E i).args (behind L (E i)) x=true→afterD (rowsOf P2 i) (kkF P2 br i) x=true:=λi a b hk=>by
  have hl:L i=liveRows (adrOf P) (rowsOf P i) (uses (E i).args (behind L (E i))):=h1 i a b
  have d:=da_dce (λx hx'=>m_nn hx h2 hx') (rowsOf P i) (kkF P br i) (kkF P2 br i) (λr hr=>(hg i a b r hr).regs) (λx p q=>hk x p (by refine rwI hl ?_;exact q)) (hda i a b).1
  have e3:rowsOf P1 i=sweepRows (adrOf P) (rowsOf P i) (uses (E i).args (behind L (E i))):=h3 i a b
  rw[← e3] at d
  have f:=da_filter (p:=λr=>!isSto (adrOf P) (takT (adrOf P) P1 E (tak0 P)) r) (rowsOf P1 i) _ (λr x_ e=>isSto_dst e) d.1
  rw[← h5 i a b] at f
  exact⟨f.1,λx p q=>by refine rwI f.2 ?_;exact d.2 x p q⟩
 have hk:=kk_step (P:=P) (P':=P2) (br:=br) (L:=L) (m:=λi=>uses (E i).args (behind L (E i)))
  (λi j a b hj x hx'=>uses_keep (behind_has (by refine rwI (hE.succ a b) ?_;exact hj) hx')) (λi a b hi=>(one i a b hi).2)
 intro i a b
 obtain⟨d1,d2⟩:=one i a b (hk i a b)
 exact⟨d1,λx hx'=>d2 x ((hda i a b).2 x hx') (uses_has hx')⟩
theorem da_append:∀ {a b:List Row}{S:ISet},DaRows a S→DaRows b (afterD a S)→DaRows (a++b) S:=@λy_1=>@λy_2=>@λy_3=>@λy_4=>@λy_5=>match @y_1,@y_2,@y_3,@y_4,@y_5 with
 |[],b,S,x_1,h=>h
 |r::a,b,S,h1,h2=>⟨h1.1,da_append h1.2 h2⟩
noncomputable def B11 (S:ISet):Prop:=∀ x,0≤x→x < 11→S x=true
theorem B11.opd {S:ISet}(h:B11 S){v:Opd}(hv:VOpd v):∀ x,v=.r x→S x=true:=λx hx=>by
 cases hv with
 |r a b=>cases hx;exact h _ (by lia) (by lia)
 |k a b=>cases hx
theorem B11.reg {S:ISet}(h:B11 S){b:Int}(h0:0≤b∧b < 11):∀ x,Opd.r b=.r x→S x=true:=λx hx=>opd_i hx ▸ h b h0.1 h0.2
theorem da1 {S:ISet}{a:Opd}(h:∀ x,a=.r x→S x=true):∀ x,.r x∈[a]→S x=true:=λx hx=>h x (mem1 hx).symm
theorem da2 {S:ISet}{a b:Opd}(h:∀ x,a=.r x→S x=true)(h':∀ x,b=.r x→S x=true):∀ x,.r x∈[a,b]→S x=true:=λx hx=>(List.mem_cons.mp hx).elim (λe=>h x e.symm) λe=>da1 h' x e
theorem acc_da {S:ISet}(h:B11 S){b:Int}(hb:S b=true){r:Row}(ha:AccR b r):∀ x,.r x∈r.args→S x=true:=by
 have hb:∀ x,Opd.r b=.r x→S x=true:=λx e=>opd_i e ▸ hb
 cases ha with
 |st hv hw=>exact da2 hb (h.opd hv)
 |ld a b hw=>exact da1 hb
theorem line_da {f:Int}{R:List Row}(f0:11≤f)(h:Line f R){S:ISet}(hS:B11 S):DaRows R S:=by
 cases h with
 |acc hh ha=>exact⟨acc_da hS (hS _ (by lia) (by lia)) ha,trivial⟩
 |st4 h=>exact⟨da2 (hS.reg (by lia)) (hS.reg (by lia)),trivial⟩
 |reach h0 h1=>
  refine⟨?_,acc_da (λx a b=>le_addD _ _ x (hS x a b)) ?_ h1,trivial⟩
  ·cases h0 with
   |ld=>exact da1 (hS.reg (by lia))
   |cp h=>exact da1 (hS.reg (by lia))
   |ad=>exact da2 (hS.reg (by lia)) (λx e=>nomatch e)
  ·cases h0<;>exact addD_dst (Int.le_trans (by decide) f0)
 |mv a b=>exact⟨da2 (hS.reg (by lia)) (hS.reg (by lia)),trivial⟩
 |bin a b c d e=>exact⟨da2 (hS.opd d) (hS.opd e),trivial⟩
 |see a b c=>exact⟨da1 (hS.opd c),trivial⟩
 |poke a b c=>exact⟨da1 (hS.reg (by lia)),trivial⟩
theorem B11.after {S:ISet}(h:B11 S)(l:List Row):B11 (afterD l S):=λx a b=>le_afterD l S x (h x a b)
theorem lines_da:∀ (ls:List (List Row))(S:ISet),(∀ l∈ls,∃ f,11≤f∧f < 21∧Line f l)→B11 S→DaRows ls.flatten S:=@λy_1=>@λy_2=>@λy_3=>@λy_4=>match @y_1,@y_2,@y_3,@y_4 with
 |[],S,x_1,x_2=>trivial
 |l::ls,S,h,hS=>by
  obtain⟨f,f0,f1,hf⟩:=h l (.head _)
  exact da_append (line_da f0 hf hS) (lines_da ls _ (λq hq=>h q (.tail _ hq)) (hS.after l))
theorem blk_da {i:Int}{R:List Row}(h:Blk i R){S:ISet}(hS:B11 S):DaRows R S:=by
 obtain⟨b,ls,⟨_,hl⟩,rfl⟩:=h
 refine da_append (da_append ?_ (lines_da ls _ hl (hS.after _))) ?_
 ·cases b with
  |true=>exact⟨λx hx=>(by exact nomatch hx),trivial⟩
  |false=>trivial
 ·split
  ·exact⟨da2 ((hS.after _).reg (by decide)) (λx e=>nomatch e),trivial⟩
  ·trivial
theorem blk0_b11:B11 (afterD blk0 prmM):=λx a b=>
 have e:∀ n,n < 11→afterD blk0 prmM (n:Nat)=true:=by decide
 Int.toNat_of_nonneg a ▸ e x.toNat (by lia)
theorem blk0_da:DaRows blk0 prmM:=
 ⟨λx hx=>(by exact nomatch hx),λx hx=>(by exact nomatch hx),λx hx=>(by exact nomatch hx),λx hx=>(by exact nomatch hx),λx hx=>(by exact nomatch hx),da2 (λx e=>opd_i e ▸ (by decide)) (λx e=>opd_i e ▸ (by decide)),trivial⟩
theorem Drawn.da {P:Prg}{E:Ens}{br:Bool}(h:Drawn (rowsOf P))(hE:EndsOk br E):DaAll P E br:=by
 have b1:B11 (kkF P br 1):=by
  refine (?_:B11 (afterD (rowsOf P 0) prmM))
  refine rwI h.p0 ?_;exact blk0_b11
 have b2:B11 (kkF P br 2):=b1.after (rowsOf P 1)
 have b3:B11 (kkF P br 3):=by
  cases br with
  |true=>exact b1.after (rowsOf P 1)
  |false=>exact b2.after (rowsOf P 2)
 have ends:∀ i,0≤i→i < 4→B11 (afterD (rowsOf P i) (kkF P br i))→∀ x,.r x∈(E i).args→afterD (rowsOf P i) (kkF P br i) x=true:=λi a b hb x hx=>by
  have:=hE.regs a b x hx
  exact hb x (by lia) (by lia)
 intro i a b
 rcases i4 a b with rfl|rfl|rfl|rfl
 ·refine⟨?_,ends 0 a b b1⟩
  refine (?_:DaRows (rowsOf P 0) prmM)
  refine rwI h.p0 ?_;exact blk0_da
 ·exact⟨blk_da (h.pl 1 (by decide) b) b1,ends 1 a b (b1.after _)⟩
 ·exact⟨blk_da (h.pl 2 (by decide) b) b2,ends 2 a b (b2.after _)⟩
 ·exact⟨blk_da (h.pl 3 (by decide) b) b3,ends 3 a b (b3.after _)⟩
noncomputable def Dom (S:ISet) (κ:Int→Option Int):Prop:=∀ x,S x=true→∃ v,κ x=some v
theorem evalL_def {κ:Int→Option Int}:∀ {l:List Opd},(∀ x,.r x∈l→∃ v,κ x=some v)→∃ g,evalL κ l=some g:=@λy_1=>@λy_2=>match @y_1,@y_2 with
 |[],x_1=>⟨[],rfl⟩
 |o::l,h=>by
  obtain⟨g,hg⟩:=evalL_def (l:=l) λx hx=>h x (.tail _ hx)
  have:∃ v,evalO κ o=some v:=by
   cases o with
   |r x=>exact h x (.head _)
   |k v=>exact⟨v,rfl⟩
  obtain⟨v,hv⟩:=this
  exact⟨v::g,by simp only[evalL,hv,hg]⟩
theorem Dom.set {S:ISet}{κ:Int→Option Int}(h:Dom S κ)(r:Row)(v:Int):Dom (addD S r) (setK κ r.dst v):=by
 intro x hx
 unfold setK
 cases hd:decide (r.dst ≥ 0) with
 |true=>
  simp only
  by_cases e:x=r.dst
  ·refine rwI (if_pos e) ?_;exact⟨_,rfl⟩
  ·refine rwI (if_neg e) ?_
   exact h x ((addD_inv hx).resolve_right λq=>e q.1)
 |false=>
  refine h x ((addD_inv hx).resolve_right λq=>?_)
  have:=of_decide_eq_false hd
  lia
theorem da_rows:∀ (l:List Row)(S:ISet)(m:Mc),DaRows l S→Dom S m.κ→∃ b m1,rowsO m l=some (b,m1)∧(b=true→Dom (afterD l S) m1.κ):=@λy_1=>@λy_2=>@λy_3=>@λy_4=>@λy_5=>match @y_1,@y_2,@y_3,@y_4,@y_5 with
 |[],S,m,x_1,h=>⟨true,m,rfl,λx_=>h⟩
 |r::l,S,⟨κ,μ,tr⟩,hd,h=>by
  obtain⟨g,hg⟩:=evalL_def (κ:=κ) λx hx=>h x (hd.1 x hx)
  obtain⟨ok,v,μ2,tr2,hf⟩:=doRow_form r g (evalL_len hg) μ tr
  have hs:stepO ⟨κ,μ,tr⟩ r=some (ok,⟨kIf ok (setK κ r.dst v) κ,μ2,tr2⟩):=by
   simp only[stepO,hg,Option.map_some,hf]
  (refine rwI rowsO_cons ?_;refine rwI hs ?_)
  cases ok with
  |false=>exact⟨false,_,rfl,λe=>by cases e⟩
  |true=>exact da_rows l (addD S r) _ hd.2 (h.set r v)
theorem da_play {P:Prg}{E:Ens}{br:Bool}(hE:EndsOk br E)(hda:DaAll P E br):∀ (n:Nat)(i:Int)(m:Mc),0≤i→i < 4→Dom (kkF P br i) m.κ→∃ v,play (rowsOf P) E n i m=some v:=@λy_1=>@λy_2=>@λy_3=>@λy_4=>@λy_5=>@λy_6=>match @y_1,@y_2,@y_3,@y_4,@y_5,@y_6 with
 |0,i,m,x_1,x_2,x_3=>⟨_,rfl⟩
 |n+1,i,m,i0,i1,h=>by
  obtain⟨b,m1,hr,h1⟩:=da_rows (rowsOf P i) _ m (hda i i0 i1).1 h
  (refine rwI play_succ ?_;refine rwI hr ?_)
  cases b with
  |false=>exact⟨_,rfl⟩
  |true=>
   simp only
   have h1:=h1 rfl
   have go:∀ j,j∈(E i).succ→∃ v,play (rowsOf P) E n j m1=some v:=λj hj=>by
    have hj':j∈succS br i:=by refine rwS (hE.succ i0 i1) ?_;exact hj
    have hj4:=succS_in hj'
    exact da_play hE hda n j m1 hj4.1 hj4.2 λx hx=>h1 x (kk_le i0 i1 hj' x hx)
   have he:=(hda i i0 i1).2
   cases hEi:E i with
   |give r=>
    obtain⟨v,hv⟩:=h1 r (he r (by refine rwI hEi ?_;exact .head _))
    simp only[hv,Option.map_some];exact⟨_,rfl⟩
   |jump t=>rw[hEi] at go;exact go t (by simp[End.succ])
   |branch r x y=>
    rw[hEi] at go
    obtain⟨v,hv⟩:=h1 r (he r (by refine rwI hEi ?_;exact .head _))
    simp only[hv]
    refine go _ ?_
    cases v==0<;>(first|exact List.mem_cons_self|exact .tail _ (.head _))
theorem dom0 (ws:List Int):Dom prmM (kap0 ws):=by
 intro x hx
 exact consA (P:=λx=>∃ v,kap0 ws x=some v) ⟨_,rfl⟩ (consA ⟨_,rfl⟩ (consA ⟨_,rfl⟩ (consA ⟨_,rfl⟩ (consA ⟨_,rfl⟩ (consA ⟨_,rfl⟩ λx_ h=>(List.not_mem_nil h).elim))))) x (List.contains_iff_mem.mp (show ([0,1,7,8,9,10]:List Int).contains x=true from hx))
theorem kap0_in {ws:List Int}{x v:Int}(h:kap0 ws x=some v):x=0∨(x=1∧v=ws.getD 1 0)∨(7≤x∧x < 11):=by
 by_cases h0:x=0
 ·exact .inl h0
 ·by_cases h1:x=1
  ·subst h1
   have h:some (ws.getD 1 0)=some v:=h
   exact .inr (.inl ⟨rfl,(Option.some.inj h).symm⟩)
  ·by_cases h2:7≤x∧x < 11
   ·exact .inr (.inr h2)
   ·exfalso
    have:kap0 ws x=none:=by
     unfold kap0 regsIn kapS
     simp only[List.foldl_cons,List.foldl_nil]
     (refine rwI (if_neg (by lia)) ?_;refine rwI (if_neg (by lia)) ?_;refine rwI (if_neg (by lia)) ?_;refine rwI (if_neg (by lia)) ?_;refine rwI (if_neg (by lia)) ?_;refine rwI (if_neg (by lia)) ?_;rfl)
    rw[this] at h;cases h
theorem KI.init {T:ISet}{A:Adr}{ws:List Int}(hw:WordsOk ws):KI T A (kap0 ws):=λx v h=>by
 rcases kap0_in h with e|e|e
 ·exact⟨λx_=>by lia,λx_=>by lia,λx_=>by lia,λx_=>by lia⟩
 ·exact⟨λx_=>.inl (e.2.trans hw.2.2),λx_=>by lia,λx_=>by lia,λx_=>by lia⟩
 ·exact⟨λx_=>by lia,λx_=>by lia,λx_=>by lia,λx_=>by lia⟩
theorem WI.init {T:ISet}:WI T mu0:=λx_=>⟨0,.inl rfl,λn hn=>by
 have:=(by decide:∀ n:Nat,n < 4→n=0∨n=1∨n=2∨n=3) n (by assumption)
 rcases this with rfl|rfl|rfl|rfl<;>decide⟩
theorem round_sub {P P2:Prg}{E:Ens}(h:RoundR P E P2){i:Int}(i0:0≤i)(i1:i < 4):Sub (rowsOf P2 i) (rowsOf P i):=by
 obtain⟨P1,L,T,h1,h2,h3,rfl,h5⟩:=h.ex
 refine rwI (h5 i i0 i1) ?_
 refine Sub.filt ?_ _
 refine rwI (h3 i i0 i1) ?_
 exact sweep_sub ..
theorem round_play {P P2:Prg}{E:Ens}{br:Bool}{ws:List Int}{v:AV}(hE:EndsOk br E)(hw:WordsOk ws)(hg:Good P)(h:RoundR P E P2)(hp:play (rowsOf P) E 40 0 (mc0 ws)=some v):play (rowsOf P2) E 40 0 (mc0 ws)=some v:=by
 obtain⟨P1,L,T,h1,h2,h3,rfl,h5⟩:=h.ex
 have p1:play (rowsOf P1) E 40 0 (mc0 ws)=some v:=
  dce_play (adrOf_adr hg) hE h1 h2 hg (R':=rowsOf P1) h3 40 0 (mc0 ws) (mc0 ws) (by decide) (by decide) (λx_ x_=>rfl) rfl rfl hp
 have hs:∀ i,0≤i→i < 4→Sub (rowsOf P1 i) (rowsOf P i):=λi a b=>by refine rwI (h3 i a b) ?_;exact sweep_sub ..
 exact sto_play hE (λi a b=>tk_of hg hs a b) h5 40 0 _ _ rfl rfl (by decide) (by decide) (KI.init hw) WI.init (λx_ x_=>rfl) p1
theorem round_wf {P P2:Prg}{E:Ens}{br:Bool}(hw:Wf (rowsOf P) E br)(h:RoundR P E P2):Wf (rowsOf P2) E br:=by
 have hs:=λi a b=>round_sub h (i:=i) a b
 refine⟨λi a b=>(hs i a b).good (hw.ok i a b),λi a b=>Nat.le_trans (hs i a b).len (hw.len i a b),λx a b=>?_,hw.ends⟩
 have c0:=(hs 0 (by decide) (by decide)).cnt (x:=x) (by lia)
 have c1:=(hs 1 (by decide) (by decide)).cnt (x:=x) (by lia)
 have c2:=(hs 2 (by decide) (by decide)).cnt (x:=x) (by lia)
 have c3:=(hs 3 (by decide) (by decide)).cnt (x:=x) (by lia)
 exact Nat.le_trans (Nat.add_le_add (Nat.add_le_add (Nat.add_le_add c0 c1) c2) c3) (hw.cnt x a b)
noncomputable def msrP (P:Prg):Nat:=msr (rowsOf P 0)+msr (rowsOf P 1)+msr (rowsOf P 2)+msr (rowsOf P 3)
theorem round_msr {P P2:Prg}{E:Ens}(hg:Good P)(h:RoundR P E P2){i:Int}(i0:0≤i)(i1:i < 4)(hne:rowsOf P2 i≠rowsOf P i):msrP P2 < msrP P:=by
 have hs:=λj a b=>(round_sub h (i:=j) a b).msr
 have hd:∀ j,0≤j→j < 4→∀ r∈rowsOf P j,-1≤r.dst:=λj a b r hr=>(hg j a b r hr).dst.1
 have lt:msr (rowsOf P2 i) < msr (rowsOf P i):=by
  have:=(hs i i0 i1).1
  by_cases e:msr (rowsOf P2 i)=msr (rowsOf P i)
  ·exact absurd ((hs i i0 i1).2 e (hd i i0 i1)) hne
  ·exact Nat.lt_of_le_of_ne this e
 have a0:=(hs 0 (by decide) (by decide)).1
 have a1:=(hs 1 (by decide) (by decide)).1
 have a2:=(hs 2 (by decide) (by decide)).1
 have a3:=(hs 3 (by decide) (by decide)).1
 unfold msrP
 rcases i4 i0 i1 with rfl|rfl|rfl|rfl
 ·exact Nat.add_lt_add_of_lt_of_le (Nat.add_lt_add_of_lt_of_le (Nat.add_lt_add_of_lt_of_le lt a1) a2) a3
 ·exact Nat.add_lt_add_of_lt_of_le (Nat.add_lt_add_of_lt_of_le (Nat.add_lt_add_of_le_of_lt a0 lt) a2) a3
 ·exact Nat.add_lt_add_of_lt_of_le (Nat.add_lt_add_of_le_of_lt (Nat.add_le_add a0 a1) lt) a3
 ·exact Nat.add_lt_add_of_le_of_lt (Nat.add_le_add (Nat.add_le_add a0 a1) a2) lt
theorem en_of {x:Int}:∀ {n:Int}{l:List Opd},.r x∈l→∃ pl,(pl,Opd.r x)∈en n l:=@λy_1=>@λy_2=>@λy_3=>match @y_1,@y_2,@y_3 with
 |n,o::l,h=>by
  rcases List.mem_cons.mp h with e|h
  ·subst e;exact⟨n,.head _⟩
  ·obtain⟨pl,hp⟩:=en_of (n:=n+1) h;exact⟨pl,.tail _ hp⟩
theorem ownSt_reg {r:Row}{pl:Int}{o:Opd}(hu:(pl,o)∈en 0 r.args)(h:ownSt r pl=true):∃ x b w,r=.store (.r x) b w false∧pl=0∧o=.r x∧2≤x∧x < 6∧w≤sizeS (x - 2):=by
 cases r with
 |store a b w f=>
  replace h:(pl==0&&(!f&&own a w))=true:=h
  obtain⟨h1,h2⟩:=band2 h
  obtain⟨h2,ho⟩:=band2 h2
  obtain rfl:=eq_of_beq h1
  obtain rfl:f=false:=by cases f<;>first|rfl|exact nomatch h2
  obtain⟨x,rfl,_⟩:=own_r ho
  simp only[own,Bool.and_eq_true,decide_eq_true_eq] at ho
  simp[Row.args,en] at hu
  exact⟨x,b,w,rfl,rfl,hu,ho.1,ho.2.1,ho.2.2⟩
 |_=>exact (Bool.false_ne_true h).elim
theorem da_adr {P:Prg}{E:Ens}{br:Bool}(hg:Good P)(hda:DaAll P E br){x:Int}(x0:2≤x)(x1:x < 6){i:Int}(i0:0≤i)(i1:i < 4)(h:∃ r∈rowsOf P i,.r x∈r.args):adrOf P x=some (x - 2):=by
 have from_row:∀ j,0≤j→j < 4→∀ r∈rowsOf P j,r.dst=x→adrOf P x=some (x - 2):=λj a b r hr e=>by
  have:=(hg j a b r hr).home (e ▸ x0) (e ▸ x1)
  rw[e] at this
  rw[this] at hr
  exact adrOf_has (λq=>absurd (q ▸ x0) (by decide)) a b hr
 have aft:∀ j,0≤j→j < 4→∀ (l:List Row) (S:ISet),(∀ r∈l,r∈rowsOf P j)→afterD l S x=true→S x=true∨adrOf P x=some (x - 2):=λj a b l=>by
  induction l with
  |nil=>exact λS x_ h=>.inl h
  |cons r l ih=>
   intro S hl h
   rcases ih (addD S r) (λq hq=>hl q (.tail _ hq)) h with h|h
   ·rcases addD_inv h with h|⟨h,_⟩
    ·exact .inl h
    ·exact .inr (from_row j a b r (hl r (.head _)) h.symm)
   ·exact .inr h
 have c0:kkF P br 0 x=true→adrOf P x=some (x - 2):=λh=>by
  exact absurd ⟨x0,x1⟩ ((by decide:∀ x∈([0,1,7,8,9,10]:List Int),¬ (2≤x∧x < 6)) x (List.contains_iff_mem.mp h))
 have st:∀ j,0≤j→j < 4→(kkF P br j x=true→adrOf P x=some (x - 2))→afterD (rowsOf P j) (kkF P br j) x=true→adrOf P x=some (x - 2):=λj a b hj h=>
  (aft j a b _ _ (λx_ h=>h) h).elim hj id
 have c1:kkF P br 1 x=true→adrOf P x=some (x - 2):=st 0 (by decide) (by decide) c0
 have c2:kkF P br 2 x=true→adrOf P x=some (x - 2):=st 1 (by decide) (by decide) c1
 have c3:kkF P br 3 x=true→adrOf P x=some (x - 2):=by
  cases br with
  |true=>exact st 1 (by decide) (by decide) c1
  |false=>exact st 2 (by decide) (by decide) c2
 have ci:kkF P br i x=true→adrOf P x=some (x - 2):=by
  rcases i4 i0 i1 with rfl|rfl|rfl|rfl
  ·exact c0
  ·exact c1
  ·exact c2
  ·exact c3
 obtain⟨r,hr,hx⟩:=h
 have inside:∀ (l:List Row) (S:ISet),(∀ q∈l,q∈rowsOf P i)→(S x=true→adrOf P x=some (x - 2))→DaRows l S→r∈l→adrOf P x=some (x - 2):=λl=>by
  induction l with
  |nil=>intro S _ _ _ h;exact nomatch h
  |cons q l ih=>
   intro S hl hS hd hm
   rcases List.mem_cons.mp hm with e|hm
   ·subst e;exact hS (hd.1 x hx)
   ·refine ih (addD S q) (λp hp=>hl p (.tail _ hp)) (λh=>?_) hd.2 hm
    rcases addD_inv h with h|⟨h,_⟩
    ·exact hS h
    ·exact from_row i i0 i1 q (hl q (.head _)) h.symm
 exact inside (rowsOf P i) _ (λx_ h=>h) ci (hda i i0 i1).1 hr
structure Last (P:Prg)(E:Ens):Prop where
 ex:∃ (L:Int→ISet),(∀ i r,L i r=true→Used P E r)∧(∀ i,0≤i→i < 4→rowsOf P i=sweptP (adrOf P) P E L i)∧∀ i,0≤i→i < 4→∀ r∈rowsOf P i,isSto (adrOf P) (takT (adrOf P) P E (tak0 P)) r=false
theorem takT_congr {A:Adr}{P P':Prg}{E:Ens}{m:ISet}(h:∀ i,0≤i→i < 4→P i=P' i):takT A P E m=takT A P' E m:=by
 simp only[takT,List.foldl_cons,List.foldl_nil,takB,h 0 (by decide) (by decide),h 1 (by decide) (by decide),h 2 (by decide) (by decide),h 3 (by decide) (by decide)]
theorem Round.last {P P2:Prg}{E:Ens}(h:Round P E P2 false):Last P E:=by
 obtain⟨P1,L,h1,h2,h3,h4,h5⟩:=h.ex
 have e1:=h5 rfl
 have e2:=h.same rfl
 refine⟨L,h2,λi a b=>?_,λi a b r hr=>?_⟩
 ·(refine rwS ((h3 i a b).2) ?_;refine rwI (e1 i a b) ?_);rfl
 ·have h6:=rowsOf_noSto (h4 i a b)
  have hr1:rowsOf P1 i=rowsOf P i:=by unfold rowsOf;(refine rwI (e1 i a b) ?_;rfl)
  have hr2:rowsOf P2 i=rowsOf P i:=by unfold rowsOf;(refine rwI (e2 i a b) ?_;rfl)
  rw[hr1,hr2,takT_congr e1] at h6
  have:=(List.filter_eq_self.mp h6.symm) r hr
  simpa using this
theorem Used.names {P:Prg}{E:Ens}{x:Int}(h:Used P E x):(swA (rowsOf P) E).nm x=true∨((swA (rowsOf P) E).st x=true∧2≤x∧x < 6):=by
 obtain⟨i,i0,i1,h|⟨p,hp,h⟩⟩:=h
 ·exact .inl (sw_end i0 i1 h)
 ·have hr:p.2∈rowsOf P i:=List.mem_map.mpr ⟨p,hp,rfl⟩
  obtain⟨pl,hu⟩:=en_of (n:=0) h
  refine bcase (b:=ownSt p.2 pl) (λho=>?_) λho=>?_
  ·exact .inl (sw_use i0 i1 hr hu ho)
  ·
   obtain⟨y,b,w,_,_,e,y0,y1,_⟩:=ownSt_reg hu ho
   cases e
   exact .inr ⟨sw_own i0 i1 hr hu ho,y0,y1⟩
theorem last_vain {P:Prg}{E:Ens}{br:Bool}(hg:Good P)(hda:DaAll P E br)(h:Last P E):∀ i,0≤i→i < 4→∀ r∈rowsOf P i,vainB (swA (rowsOf P) E).st r=true→(swA (rowsOf P) E).nm r.dst=true:=by
 obtain⟨L,hL,hsw,_⟩:=h.ex
 intro i i0 i1 r hr hv
 have gr:=hg i i0 i1 r hr
 have live:isFree (adrOf P) r=true→Used P E r.dst:=λhf=>by
  have hs:sweepRows (adrOf P) (rowsOf P i) (uses (E i).args (behind L (E i)))=rowsOf P i:=(hsw i i0 i1).symm
  obtain⟨l2,⟨l1,e⟩,hl⟩:=sweep_id hs r hr hf
  rcases liveRows_used hl with hl|⟨q,hq,hq'⟩
  ·rcases uses_inv hl with hl|hl
   ·obtain⟨j,_,hl⟩:=behind_inv hl;exact hL j _ hl
   ·exact⟨i,i0,i1,.inl hl⟩
  ·have hq2:q∈rowsOf P i:=by refine rwI e ?_;simp[hq]
   obtain⟨p,hp,e⟩:=List.mem_map.mp hq2
   exact⟨i,i0,i1,.inr ⟨p,hp,by refine rwI e ?_;exact hq'⟩⟩
 have out:(r.dst < 2∨6≤r.dst)→isFree (adrOf P) r=true→(swA (rowsOf P) E).nm r.dst=true:=λhd hf=>by
  rcases (live hf).names with h|⟨_,a,b⟩
  ·exact h
  ·exact hd.elim (λq=>absurd q (Int.not_lt.mpr a)) λq=>absurd b (Int.not_lt.mpr q)
 have hd:(r.dst < 2∨6≤r.dst)∨(2≤r.dst∧r.dst < 6):=(Int.lt_or_le r.dst 2).elim (λh=>.inl (.inl h)) λh=>(Int.lt_or_le r.dst 6).elim (λk=>.inr ⟨h,k⟩) λk=>.inl (.inr k)
 cases r with
 |slot d s=>
  rcases hd with hd|⟨d0,d1⟩
  ·exact out hd rfl
  ·rcases (live rfl).names with h|⟨h,_⟩
   ·exact h
   ·have:(!(swA (rowsOf P) E).st d)=true:=hv
    have h:(swA (rowsOf P) E).st d=true:=h
    rw[h] at this;exact (Bool.false_ne_true this).elim
 |load d a w sx f=>
  have hv:(!f&&own a w)=true:=hv
  simp only[Bool.and_eq_true,Bool.not_eq_true'] at hv
  obtain⟨rfl,ho⟩:=hv
  obtain⟨x,rfl,x0,x1⟩:=own_r ho
  have hA:=da_adr hg hda x0 x1 i0 i1 ⟨_,hr,by exact .head _⟩
  have hf:isFree (adrOf P) (.load d (.r x) w sx false)=true:=by
   simp only[own,Bool.and_eq_true,decide_eq_true_eq] at ho
   refine (?_:(match adrOf P x with|some s=>decide (w≤sizeS s)|none=>false)=true)
   refine rwI hA ?_
   exact decide_eq_true ho.2.2
  rcases hd with hd|⟨d0,d1⟩
  ·exact out hd hf
  ·have:=gr.home d0 d1;exact nomatch this
 |copy d a=>
  rcases hd with hd|⟨d0,d1⟩
  ·exact out hd rfl
  ·have:=gr.home d0 d1;exact nomatch this
 |name d=>
  rcases hd with hd|⟨d0,d1⟩
  ·exact out hd rfl
  ·have:=gr.home d0 d1;exact nomatch this
 |bin o d a b=>
  rcases hd with hd|⟨d0,d1⟩
  ·refine out hd ?_
   cases o<;>first|rfl|cases hv
  ·have:=gr.home d0 d1;cases this
 |store a b w f=>cases hv
 |move a b f=>cases hv
 |call d a p=>cases hv
theorem last_stored {P:Prg}{E:Ens}{br:Bool}(hg:Good P)(hda:DaAll P E br)(h:Last P E):∀ x,(swA (rowsOf P) E).st x=true→(swA (rowsOf P) E).nm x=true∨∃ i s,0≤i∧i < 4∧.slot 1 s∈rowsOf P i∧x=2+s:=by
 obtain⟨L,_,_,hsto⟩:=h.ex
 intro x hx
 obtain⟨i,i0,i1,r,hr,pl,o,hu,ho,e⟩:=sw_inv hx
 obtain⟨y,b,w,rfl,rfl,rfl,y0,y1,hw⟩:=ownSt_reg hu ho
 have e:y=x:=e
 subst e
 have hA:=da_adr hg hda y0 y1 i0 i1 ⟨_,hr,.head _⟩
 have ht:takT (adrOf P) P E (tak0 P) (y - 2)=true:=by
  have:=hsto i i0 i1 _ hr
  replace this:(match adrOf P y with|some s=>!(takT (adrOf P) P E (tak0 P) s)|none=>false)=false:=this
  rw[hA] at this
  exact Bool.not_eq_false' _ ▸ this
 have same:∀ x',adrOf P x'=some (y - 2)→x'=y:=λx' hx'=>by
  have h:=((adrOf_adr hg) x' _ hx').2.2;exact (Int.sub_left_inj 2).mp h.symm
 rcases takT_inv ht with h0|⟨j,j0,j1,r',hr',pl',x',hu',hA',hp'⟩|⟨j,j0,j1,x',hx',hA'⟩
 ·right
  simp only[tak0,Bool.and_eq_true,beq_iff_eq] at h0
  obtain⟨k,s,k0,k1,hk⟩:=hasD_slot.mp h0.2
  have:s=0:=by
   rcases (hg k k0 k1 _ hk).slotd with⟨a,b,c⟩|⟨_,b⟩
   ·lia
   ·exact b
  subst this
  exact⟨k,0,k0,k1,hk,by lia⟩
 ·left
  have:=same x' hA'
  subst this
  refine sw_use j0 j1 hr' hu' ?_
  cases ho':ownSt r' pl' with
  |false=>rfl
  |true=>
   obtain⟨z,b',w',rfl,rfl,e,z0,z1,hw'⟩:=ownSt_reg hu' ho'
   cases e
   simp[plainSt] at hp'
   lia
 ·left
  have:=same x' hA'
  subst this
  exact sw_end j0 j1 hx'
noncomputable def PTr (tr:List AV):Prop:=∀ e∈tr,plainD 2 e=true
theorem PTr.snoc {tr:List AV}(h:PTr tr){e:AV}(he:plainD 2 e=true):PTr (tr++[e]):=λx hx=>by
 rcases List.mem_append.mp hx with hx|hx
 ·exact h x hx
 ·simp at hx;subst hx;exact he
theorem PTr.push {tr:List AV}(h:PTr tr){e:AV}(he:plainD 2 e=true)(c:Bool):PTr (pushIf c tr e):=by
 cases c with
 |true=>exact h.snoc he
 |false=>exact h
theorem doRow_PT (m:Mc)(h:PTr m.tr)(r:Row)(g:List Int):PTr (doRow m r g).2.tr:=by
 cases r with
 |slot d s=>exact h
 |name d=>exact h
 |load d a w sx f=>exact one_P (P:=λm=>PTr m.tr) h λx=>h.push rfl _
 |store a v w f=>exact two_P (P:=λm=>PTr m.tr) h λx y=>h.push rfl _
 |move a b f=>exact two_P (P:=λm=>PTr m.tr) h λx y=>h.snoc rfl
 |call d a p=>exact one_P (P:=λm=>PTr m.tr) h λx=>by cases p<;>exact h.snoc rfl
 |copy d a=>exact one_P (P:=λm=>PTr m.tr) h λx=>h
 |bin o d a b=>
  refine two_P (P:=λm=>PTr m.tr) h λx y=>?_
  unfold doBin
  split
  ·unfold doDiv
   split
   ·exact h.snoc rfl
   ·exact h.push rfl _
  ·exact h
theorem rowsO_PT:∀ (l:List Row)(m:Mc)(b:Bool)(m1:Mc),PTr m.tr→rowsO m l=some (b,m1)→PTr m1.tr:=@λy_1=>@λy_2=>@λy_3=>@λy_4=>@λy_5=>@λy_6=>match @y_1,@y_2,@y_3,@y_4,@y_5,@y_6 with
 |[],m,b,m1,h,e=>by cases e;exact h
 |r::l,m,b,m1,h,e=>by
  rw[rowsO_cons] at e
  refine ocase (o:=stepO m r) (λhs=>?_) λp hs=>?_
  ·rw[hs] at e;cases e
  ·
   obtain⟨ok,m2⟩:=p
   have h2:PTr m2.tr:=by
    rw[stepO_e] at hs
    refine ocase (o:=evalL m.κ r.args) (λhg=>?_) λg hg=>?_
    ·rw[hg] at hs;cases hs
    ·
     rw[hg] at hs
     have:(doRow m r g)=(ok,m2):=Option.some.inj hs
     have q:=doRow_PT m h r g
     rw[this] at q;exact q
   rw[hs] at e
   cases ok with
   |false=>cases e;exact h2
   |true=>exact rowsO_PT l m2 b m1 h2 e
theorem plain_res {a b:AV}{tr:List AV}(ha:plainD 3 a=true)(hb:plainD 3 b=true)(h:PTr tr):plainD 4 (.tup [a,b,.lst tr])=true:=by
 have:plainD 3 (.lst tr)=true:=List.all_eq_true.mpr h
 refine (?_:(plainD 3 a&&(plainD 3 b&&(plainD 3 (.lst tr)&&true)))=true)
 (refine rwI ha ?_;refine rwI hb ?_;refine rwI this ?_);rfl
theorem play_plain {R:Int→List Row}{E:Ens}{v:AV}:∀ (n:Nat)(i:Int)(m:Mc),PTr m.tr→play R E n i m=some v→plainD 4 v=true:=@λy_1=>@λy_2=>@λy_3=>@λy_4=>@λy_5=>match @y_1,@y_2,@y_3,@y_4,@y_5 with
 |0,i,m,h,e=>by cases e;exact plain_res rfl rfl h
 |n+1,i,m,h,e=>by
  rw[play_succ] at e
  refine ocase (o:=rowsO m (R i)) (λhr=>?_) λp hr=>?_
  ·rw[hr] at e;cases e
  ·
   obtain⟨b,m1⟩:=p
   have h1:=rowsO_PT _ _ _ _ h hr
   rw[hr] at e
   cases b with
   |false=>cases e;exact plain_res rfl rfl h1
   |true=>
    simp only at e
    cases hE:E i with
    |give r=>
     rw[hE] at e
     simp only at e
     refine ocase (o:=m1.κ r) (λhk=>?_) λx hk=>?_
     ·rw[hk] at e;cases e
     ·rw[hk] at e;cases e;exact plain_res rfl rfl h1
    |jump t=>rw[hE] at e;exact play_plain n t m1 h1 e
    |branch r x y=>
     rw[hE] at e
     simp only at e
     refine ocase (o:=m1.κ r) (λhk=>?_) λw hk=>?_
     ·rw[hk] at e;cases e
     ·rw[hk] at e;exact play_plain n _ m1 h1 e
noncomputable def nP (P:Prg):Prg:=λi=>if 0≤i∧i < 4 then P i else []
noncomputable def nE (E:Ens):Ens:=λi=>if 0≤i∧i < 4 then E i else .jump 1
theorem nP_in {P:Prg}{i:Int}(a:0≤i)(b:i < 4):nP P i=P i:=if_pos ⟨a,b⟩
theorem nE_in {E:Ens}{i:Int}(a:0≤i)(b:i < 4):nE E i=E i:=if_pos ⟨a,b⟩
theorem nR_in {P:Prg}{i:Int}(a:0≤i)(b:i < 4):rowsOf (nP P) i=rowsOf P i:=by unfold rowsOf;(refine rwI (nP_in a b) ?_;rfl)
theorem parts_congr {R R':Int→List Row}(h:∀ i,0≤i→i < 4→R i=R' i):partsV R=partsV R':=by
 unfold partsV
 (refine rwI (h 0 (by decide) (by decide)) ?_;refine rwI (h 1 (by decide) (by decide)) ?_;refine rwI (h 2 (by decide) (by decide)) ?_;refine rwI (h 3 (by decide) (by decide)) ?_;rfl)
theorem nE_ends (E:Ens):endsV (nE E)=endsV E:=by
 unfold endsV
 (refine rwI (nE_in (by decide) (by decide)) ?_;refine rwI (nE_in (by decide) (by decide)) ?_;refine rwI (nE_in (by decide) (by decide)) ?_;refine rwI (nE_in (by decide) (by decide)) ?_;rfl)
theorem nE_ok {br:Bool}{E:Ens}(h:EndsOk br E):EndsOk br (nE E):=by
 refine⟨?_,?_,?_,?_⟩
 ·refine rwI (nE_in (by decide) (by decide)) ?_;exact h.e0
 ·refine rwI (nE_in (by decide) (by decide)) ?_;exact h.e1
 ·refine rwI (nE_in (by decide) (by decide)) ?_;exact h.e2
 ·refine rwI (nE_in (by decide) (by decide)) ?_;exact h.e3
theorem nE_regs {br:Bool}{E:Ens}(h:EndsOk br E):∀ i,RegsOk (nE E i).args:=λi x hx=>by
 by_cases hi:0≤i∧i < 4
 ·rw[nE_in hi.1 hi.2] at hx
  have:=h.regs hi.1 hi.2 x hx
  lia
 ·unfold nE at hx
  rw[if_neg hi] at hx
  cases hx
theorem nP_body {H:AHeap}{ly:Lay}{P:Prg}{E:Ens}(h:BodyAt H ly P E):BodyAt H ly (nP P) E:=λi a b=>by
 refine rwI (nP_in a b) ?_;exact h i a b
theorem RoundR.norm {P P2:Prg}{E:Ens}(h:RoundR P E P2):RoundR P E (nP P2):=by
 obtain⟨P1,L,T,h1,h2,h3,h4,h5⟩:=h.ex
 exact⟨P1,L,T,h1,h2,h3,h4,λi a b=>by refine rwI (nR_in a b) ?_;exact h5 i a b⟩
structure Keep (P:Prg)(E:Ens)(br:Bool)(ws:List Int)(v:AV):Prop where
 wf:Wf (rowsOf P) E br
 da:DaAll P E br
 pl:play (rowsOf P) E 40 0 (mc0 ws)=some v
 out:∀ i,¬ (0≤i∧i < 4)→P i=[]
section
variable {P:Prg}{E:Ens}{br:Bool}{ws:List Int}{v:AV}
theorem Keep.row (h:Keep P E br ws v){i:Int}{p:Nat×Row}(hp:p∈P i):RowG p.2:=by
 by_cases hi:0≤i∧i < 4
 ·exact h.wf.ok i hi.1 hi.2 p.2 (List.mem_map.mpr ⟨p,hp,rfl⟩)
 ·rw[h.out i hi] at hp;cases hp
theorem cntD_rows (x:Int):cntD (allP P) x=cntR (rowsOf P 0) x+cntR (rowsOf P 1) x+cntR (rowsOf P 2) x+cntR (rowsOf P 3) x:=by
 unfold cntD cntR allP rowsOf
 simp only[List.flatMap_cons,List.flatMap_nil,List.append_nil,List.countP_append,List.countP_map,Nat.add_assoc]
 rfl
theorem Keep.slots (h:Keep P E br ws v):SlotRows P:=by
 refine⟨λp hp=>?_,λx a b=>by refine rwI (cntD_rows ..) ?_;exact h.wf.cnt x a b⟩
 obtain⟨h1,h2⟩:=List.mem_filter.mp hp
 obtain⟨i,i0,i1,hm⟩:=mem_allP.mp h1
 have hg:=h.row hm
 obtain⟨a,r⟩:=p
 cases r with
 |slot x s=>exact⟨x,s,rfl,RowG.slotd hg⟩
 |_=>exact (Bool.false_ne_true h2).elim
theorem Keep.len (h:Keep P E br ws v)(i:Int):(P i).length≤1000:=by
 by_cases hi:0≤i∧i < 4
 ·have:=h.wf.len i hi.1 hi.2
  unfold rowsOf at this
  rw[List.length_map] at this;lia
 ·refine rwI (h.out i hi) ?_;simp
set_option tactic.hygienic true in
theorem Keep.next (h:Keep P E br ws v)(hw:WordsOk ws)(hx:∀ i,RegsOk (E i).args){P2:Prg}{c:Bool}(hr:Round P E P2 c):Keep (nP P2) E br ws v∧(∀ i,0≤i→i < 4→Sub (rowsOf (nP P2) i) (rowsOf P i)) ∧
  (c=true→msrP (nP P2) < msrP P∧∃ i,0≤i∧i < 4∧rowsOf (nP P2) i≠rowsOf P i)∧(c=false→nP P2=P∧Last P E):=by
 have hg:Good P:=h.wf.ok
 have r1:=(hr.r hg hx).norm
 have dif:c=true→∃ i,0≤i∧i < 4∧rowsOf (nP P2) i≠rowsOf P i:=λhc=>by
  obtain⟨i,a,b,hne⟩:=hr.diff hc
  exact⟨i,a,b,by refine rwI (nR_in a b) ?_;exact hne⟩
 refine⟨⟨round_wf h.wf r1,da_round h.wf.ends hg hx r1 h.da,round_play h.wf.ends hw hg r1 h.pl,λi hi=>if_neg hi⟩,λi a b=>round_sub r1 a b,λhc=>?_,λhc=>?_⟩
 ·obtain⟨i,a,b,hne⟩:=dif hc
  exact⟨round_msr hg r1 a b hne,i,a,b,hne⟩
 ·subst hc
  refine⟨?_,hr.last⟩
  funext i
  by_cases hi:0≤i∧i < 4
  ·refine rwI (nP_in hi.1 hi.2) ?_;exact hr.same rfl i hi.1 hi.2
  ·refine rwI (h.out i hi) ?_;exact if_neg hi
end
theorem parts_veq {R R':Int→List Row}(hs:∀ i,0≤i→i < 4→Sub (R i) (R' i))(h:veq (partsV R) (partsV R')=true):∀ i,0≤i→i < 4→R i=R' i:=by
 have h0:=band2 h
 have h1:=band2 h0.2
 have h2:=band2 h1.2
 have h3:=band2 h2.2
 exact all4 ((hs 0 (by decide) (by decide)).veq h0.1) ((hs 1 (by decide) (by decide)).veq h1.1) ((hs 2 (by decide) (by decide)).veq h2.1) ((hs 3 (by decide) (by decide)).veq h3.1)
theorem deref_plain {H:AHeap}{a:AV}(h:plainD 20 a=true):derefL H a=a:=by
 cases a with
 |ref b=>exact (Bool.false_ne_true h).elim
 |_=>rfl
theorem opNe_plain {H:AHeap}{a b:AV}(ha:plainD 20 a=true)(hb:plainD 20 b=true):opCm H .ne a b=some (!(veq a b)):=by
 have da:derefL H a=a:=deref_plain ha
 have db:derefL H b=b:=deref_plain hb
 refine (?_:(opEq H a b).map _=_)
 unfold opEq
 (refine rwI da ?_;refine rwI db ?_;refine rwI ha ?_;refine rwI hb ?_);rfl
theorem opEq_plain {H:AHeap}{a b:AV}(ha:plainD 20 a=true)(hb:plainD 20 b=true):opCm H .eq a b=some (veq a b):=by
 have da:derefL H a=a:=deref_plain ha
 have db:derefL H b=b:=deref_plain hb
 refine (?_:opEq H a b=_)
 unfold opEq
 (refine rwI da ?_;refine rwI db ?_;refine rwI ha ?_;refine rwI hb ?_);rfl
theorem play_same {br:Bool}{E:Ens}{P P':Int→List Row}(hE:EndsOk br E)(h:∀ i,0≤i→i < 4→P i=P' i):∀ (k:Nat)(i:Int)(m:Mc),0≤i→i < 4→play P E k i m=play P' E k i m:=@λy_1=>@λy_2=>@λy_3=>@λy_4=>@λy_5=>match @y_1,@y_2,@y_3,@y_4,@y_5 with
 |0,x_1,x_2,x_3,x_4=>rfl
 |k+1,i,m,i0,i1=>by
  (rewrite [play,play];refine rwI (h i i0 i1) ?_)
  cases rowsO m (P' i) with
  |none=>rfl
  |some p=>
   obtain⟨b,m1⟩:=p
   cases b with
   |false=>rfl
   |true=>
    have go:∀ j,j∈(E i).succ→play P E k j m1=play P' E k j m1:=λj hj=>by
     rw[hE.succ i0 i1] at hj
     have:=succS_in hj
     exact play_same hE h k j m1 this.1 this.2
    cases hEi:E i with
    |give r=>rfl
    |jump t=>rw[hEi] at go;exact go t (.head _)
    |branch r x y=>
     rw[hEi] at go
     dsimp only
     cases m1.κ r with
     |none=>rfl
     |some w=>exact go _ (by cases w==0<;>(first|exact List.mem_cons_self|exact .tail _ (.head _)))
set_option maxHeartbeats 4000000 in
set_option tactic.hygienic true in
theorem law_ok (n:Nat){H:AHeap}{sc:List Int}{Q:AV→AHeap→Prop}(h:∀ H',Q (.bool true) H'):Cn tabP (n+11) 45 [.lst (sc.map .int)] H Q:=by
 refine enter rfl rfl ?_
 refine compL_mapE AV.int (λl G Q'=>G=H∧∀ ys:List Int,Q' (ys.map .int) H) List.map_take.symm ⟨rfl,?_⟩ ?_ ?_
 rotate_left
 ·rintro x l G Q' K hk ⟨rfl,hq⟩
  exact hk _ _ trivial ⟨rfl,λys=>hq (_::ys)⟩
 ·rintro G Q' ⟨rfl,hq⟩;exact hq []
 intro ys
 intro wl hwl
 refine program_ok (n+4) (upd_self ..) ⟨ys,0,500,rfl,by decide⟩ λR E0 br ws H1 hD hE0 hW=>?_
 have hE:=nE_ok hE0
 have hx:=nE_regs hE0
 refine rwS (nE_ends ..) ?_
 generalize nE E0=E at hE hx
 let P0:Prg:=nP λi=>(R i).map λr=>(0,r)
 have hP0:∀ i,0≤i→i < 4→rowsOf P0 i=R i:=λi a b=>by
  refine rwI (nR_in a b) ?_;unfold rowsOf;simp[List.map_map,Function.comp_def]
 have hD0:Drawn (rowsOf P0):=⟨by refine rwI (hP0 0 (by decide) (by decide)) ?_;exact hD.p0,λi a b=>by refine rwI (hP0 i (by lia) b) ?_;exact hD.pl i a b⟩
 have hWf:=hD0.wf hE
 have hDa:=hD0.da hE
 obtain⟨v,hv⟩:=da_play hE hDa 40 0 (mc0 ws) (by decide) (by decide) (dom0 ws)
 have hpv:=plain_le (play_plain 40 0 (mc0 ws) (λe he=>by exact nomatch he) hv) (k:=20) (by decide)
 refine rwS (parts_congr hP0) ?_
 have prow:∀ {P:Prg},Wf (rowsOf P) E br→∀ i,0≤i→i < 4→(rowsOf P i).length≤20∧∀ r∈rowsOf P i,PRow r:=λhw i a b=>⟨hw.len i a b,λr hr=>(hw.ok i a b r hr).prow⟩
 refine play_ok (n+7) hE hW (prow hWf) hv λH2=>?_
 refine body_ok (n+8) (λi a b=>Nat.le_trans (hWf.len i a b) (by decide)) λly P' H3 hB hP'=>?_
 have hB:=nP_body hB
 have hR1:∀ i,0≤i→i < 4→rowsOf (nP P') i=rowsOf P0 i:=λi a b=>by refine rwI (nR_in a b) ?_;exact hP' i a b
 have K1:Keep (nP P') E br ws v:=by
  have hD1:Drawn (rowsOf (nP P')):=⟨by refine rwI (hR1 0 (by decide) (by decide)) ?_;exact hD0.p0,λi a b=>by refine rwI (hR1 i (by lia) b) ?_;exact hD0.pl i a b⟩
  refine⟨hD1.wf hE,hD1.da hE,?_,λi hi=>if_neg hi⟩
  have key:=play_same hE hR1
  refine rwI (key 40 0 (mc0 ws) (by decide) (by decide)) ?_;exact hv
 refine rwS (parts_congr hR1) ?_
 generalize nP P'=P1 at hB K1
 refine s_v rfl ?_
 refine s_bool ?_
 refine whl_I (λk ρ G=>Ex8 λP c a b j10 j11 j0 V=>And5 (ρ=[j0,some v,some (bodyV ly),some (partsV (rowsOf P)),some (.bool c),some V,some (endsV E),some (.lst (ws.map .int)),a,b,j10,j11]) (BodyAt G ly P E) (Keep P E br ws v) ((c=true→k=msrP P+1)) ((c=false→Last P E))) (msrP P1+1) ⟨P1,true,_,_,_,_,_,_,rfl,hB,K1,λx_=>rfl,λe=>(by exact absurd e (by decide))⟩ ?_
 rintro k ρ G K go1 go2 go3 ⟨P,c,a,b,j10,j11,j0,V,rfl,hB,hK,hc1,hc0⟩
 have hg:Good P:=hK.wf.ok
 cases c with
 |true=>
  have hk:=hc1 rfl
  refine sweep_func_ok (n+3) hB (λi a b=>hE.succ a b) hK.slots (λi p hp=>(hK.row hp).regs) hx (λi p hp=>(hK.row hp).noself) (λi p hp=>(hK.row hp).dst.1) hK.len λP2 c2 G2 hR hB2 x_=>?_
  obtain⟨K2,hsub,hc2,hd2⟩:=hK.next hW hx hR
  have hB2:=nP_body hB2
  generalize nP P2=P3 at K2 hsub hc2 hd2 hB2
  refine listing_ok (n+9) hB2 ?_
  have ppl:∀ P:Prg,plainD 20 (partsV (rowsOf P))=true:=λP=>plain_le (plain_parts _) (by decide)
  have epl:plainD 20 (endsV E)=true:=plain_le (plain_ends _) (by decide)
  have hne:(!(veq (partsV (rowsOf P3)) (partsV (rowsOf P))))=c2:=by
   cases c2 with
   |true=>
    cases hv:veq (partsV (rowsOf P3)) (partsV (rowsOf P)) with
    |false=>rfl
    |true=>
     obtain⟨_,i,a,b,hd⟩:=hc2 rfl
     exact absurd (parts_veq hsub hv i a b) hd
   |false=>
    (refine rwI ((hd2 rfl).1) ?_;refine rwI (veq_refl _ _ (plain_parts _)) ?_);rfl
  have hen:opCm G2 .ne (endsV E) (endsV E)=some false:=by
   (refine rwI (opNe_plain epl epl) ?_;refine rwI (veq_refl _ _ (plain_ends _)) ?_);rfl
  apply ok_mk ((opNe_plain (ppl P3) (ppl P)).trans (congrArg some hne))
  have hcn:∀ {G} {Q:Bool→Prop},Q false→ok (opCm G .ne (.bool c2) (.bool c2)) Q:=λ{G Q} q=>by cases c2<;>exact q
  apply hcn
  apply ok_mk hen
  refine compL_mapE (l:=[0,1,2,3]) AV.int (λl G' Q'=>And3 (G'=G2) ((∀ i∈l,0≤i∧i < 4)) (Q' (l.map λx_=>.bool true) G2)) rfl ⟨rfl,by decide,?_⟩ ?_ ?_
  rotate_left
  ·rintro i l G' Q' K' hk' ⟨rfl,hl,hq⟩
   obtain⟨i0,i1⟩:=hl i (.head _)
   apply ok_mk (parts_ix i0 i1)
   apply ok_mk (parts_ix i0 i1)
   exact is_less_ok (n+9) (hsub i i0 i1) (hk' _ _ trivial ⟨rfl,λj hj=>hl j (.tail _ hj),hq⟩)
  ·rintro G' Q' ⟨rfl,_,hq⟩;exact hq
  cases c2 with
  |true=>exact go1 (msrP P3+1) _ _ (by have:=(hc2 rfl).1;lia) ⟨P3,true,_,_,_,_,_,_,rfl,hB2,K2,λx_=>rfl,λe=>(by exact absurd e (by decide))⟩
  |false=>exact go1 0 _ _ (by lia) ⟨P3,false,_,_,_,_,_,_,rfl,hB2,K2,λe=>(by exact (Bool.false_ne_true e).elim),λx_=>by refine rwI ((hd2 rfl).1) ?_;exact (hd2 rfl).2⟩
 |false=>
  have hl:=hc0 rfl
  refine check_func_ok (n+6) hB (λi a b=>hE.succ a b) (λi p hp=>(hK.row hp).ck) hx hK.da (λi p hp=>(hK.row hp).dst.2) λG2 x_=>?_
  refine is_swept_ok (n+8) (λi a b r hr=>⟨(hg i a b r hr).regs,λd s e=>?_⟩) hx (last_vain hg hK.da hl) (last_stored hg hK.da hl) λG3=>?_
  ·have:=hg i a b r hr
   subst e
   rcases this.slotd with⟨_,q⟩|⟨_,q⟩
   ·exact q
   ·lia
  refine play_ok (n+7) hE hW (prow hK.wf) hK.pl λG4=>?_
  apply ok_mk ((opEq_plain hpv hpv).trans (congrArg some (veq_refl _ _ hpv)))
  exact h G4
theorem spec:∀ ws:List Int,ws.length≤63→Cn tabP 40 45 [.lst (ws.map .int)] (λx_=>none) λv x_=>v=.bool true:=λws x_=>law_ok 29 λx_=>rfl
end Mine.Internal
namespace Mine.Internal
open PySem PySem.W PySem.Calls PyProof.Rows
noncomputable def topT (sT:(Code→Sem Fin)→Program→World→SharedT→Thread→Option (SharedT×Thread)) (ok:Nat→Option Value→Thread→Bool) (den:Code→Sem Fin) (p:Program) (w:World) (n₀:Nat) (ann:Option Value):Nat→SharedT→Thread→Option SharedT:=@λy_1=>@λy_2=>@λy_3=>match @y_1,@y_2,@y_3 with
 |0,x_1,x_2=>none
 |n+1,s,t=>match through t with
  |true=>some s
  |false=>match ok n₀ ann t with
   |false=>none
   |true=>match sT den p w s t with
    |some (s',t')=>topT sT ok den p w n₀ ann n s' t'
    |none=>none
theorem topT_of {tb:String→Option Builtin}{p:Program}{w:World}{n₀:Nat}{ann:Option Value}:∀ {n:Nat}{s s':SharedT}{t:Thread},topT stepT stepOk (denote tb) p w n₀ ann n s t=some s'→topRun tb p w n₀ ann n s.abs t=some s'.abs:=@λy_1=>@λy_2=>@λy_3=>@λy_4=>@λy_5=>match @y_1,@y_2,@y_3,@y_4,@y_5 with
 |0,x_1,x_2,x_3,h=>by cases h
 |n+1,s,s',t,h=>by
  unfold topT at h
  unfold topRun
  cases ht:through t with
  |true=>rw[ht] at h;cases h;rfl
  |false=>
   rw[ht] at h
   cases hk:stepOk n₀ ann t with
   |false=>rw[hk] at h;cases h
   |true=>
    rw[hk] at h
    cases hs:stepT (denote tb) p w s t with
    |none=>rw[hs] at h;cases h
    |some r=>obtain⟨s₂,t₂⟩:=r;rw[hs] at h;rw[stepT_spec hs];exact topT_of h
noncomputable def bootT (P:Params):BT:=(List.range 11).foldl (λt i=>t.ins i (((boot_heap P).objs.toList)[i]?.getD default)) .nil
noncomputable def s0 (w:World) (os:OsState):SharedT:=⟨bootT w.params,11,(boot_heap w.params).life,Array.mk [],boot_drawn,boot_toks,os⟩
theorem s0_abs (w:World)(os:OsState):(s0 w os).abs=⟨boot_heap w.params,Array.mk [],boot_drawn,boot_toks,os⟩:=by kernel_rfl
theorem left_T {p q:Program}{loose:List Str}{Xt:Shared→Bool}{α:Type}{Yf:Shared→α}{Ya:World→α}{N:Nat}{g0:Bool}{sT:(Code→Sem Fin)→Program→World→SharedT→Thread→Option (SharedT×Thread)}{ok:Nat→Option Value→Thread→Bool}{den:Code→Sem Fin}
  {sn:Program→List Str→List Str→(Shared→Bool)→Bool→Shared→_}
  (open_:∀ w:World,(fencedOpening treeTable p w N).map (λs=>(s.heap,s.gens,s.drawn,s.toks))=some (boot_heap w.params,Array.mk [],boot_drawn,boot_toks)) (hs:stepT=sT) (ho:stepOk=ok) (hd:denote treeTable=den) (hn:@openSeen=sn)
  (size:∀ w:World,((boot_heap w.params).isNs mainGlobals,(boot_heap w.params).nsMap mainGlobals "__annotations__")=(true,some (.ref 6)))
  (run:∀ (w:World) (os:OsState),(topT sT ok den p w 11 (some (.ref 6)) N (s0 w os) (topStub p)).map (λt=>(staticsOk (importedModules p.main.body) (boot_heap w.params) t.abs.heap&&namesBound p t.abs.heap&&gensDone t.abs&&laidKept (boot_heap w.params) t.abs.heap,
    sn q loose (importedModules p.main.body) Xt g0 t.abs,Yf t.abs))=some (true,openGood q loose,Ya w)):LeftO p q loose Xt Yf Ya N g0:=λw=>by
 subst hs;subst ho;subst hd;subst hn
 obtain⟨⟨h,gs,d,k,os⟩,e,e'⟩:=Option.map_eq_some_iff.mp (open_ w)
 obtain⟨rfl,rfl,rfl,rfl⟩:h=boot_heap w.params∧gs=Array.mk []∧d=boot_drawn∧k=boot_toks:=by simpa using e'
 obtain⟨z1,z2⟩:=Prod.mk.inj (size w)
 obtain⟨t,r,l⟩:=Option.map_eq_some_iff.mp (run w os)
 obtain⟨l1,l2⟩:=Prod.mk.inj l
 obtain⟨l2,l3⟩:=Prod.mk.inj l2
 have r:=topT_of r
 rw[s0_abs] at r
 have z3:(boot_heap w.params).objs.size=11:=by kernel_rfl
 have t:topFrom treeTable p w N ⟨boot_heap w.params,Array.mk [],boot_drawn,boot_toks,os⟩=some t.abs:=by
  unfold topFrom
  dsimp only
  rw[z1,z2,z3,r]
  show (match staticsOk (importedModules p.main.body) (boot_heap w.params) t.abs.heap&&namesBound p t.abs.heap&&gensDone t.abs&&laidKept (boot_heap w.params) t.abs.heap with|true=>_|false=>_)=_
  rw[l1]
 unfold openEnds
 rw[e]
 show (topFrom treeTable p w N _).map _=_
 rw[t]
 exact congrArg some (Prod.ext l2 l3)
noncomputable def kOf (h:Heap):Frag:=(List.range 500).filterMap λa=>(h.get? a).map λo=>(a,o)
set_option tactic.hygienic true in
theorem kOf_in (h:Heap):(kOf h).In h:=by
 intro a o e
 unfold kOf at e
 have:∀ l:List Nat,List.lookup a (l.filterMap λa=>(h.get? a).map λo=>(a,o))=some o→h.get? a=some o:=by
  intro l
  induction l with
  |nil=>intro e;cases e
  |cons b l ih=>
   intro e
   rw[List.filterMap_cons] at e
   cases hb:h.get? b with
   |none=>rw[hb] at e;exact ih e
   |some x=>
    rw[hb] at e
    have e:List.lookup a ((b,x)::_)=some o:=e
    rw[List.lookup_cons] at e
    split at e
    ·rename_i q;cases e;rw[beq_iff_eq.mp q];exact hb
    ·exact ih e
 exact this _ e
noncomputable def fnIn (x:Str) (l:List Stmt):List Stmt:=(l.findSome? λs=>match s with
 |.FunctionDef n _ b _ _ _ _ _ _ _=>if n==x then some b else none
 |_=>none).getD []
noncomputable def clsBody (x:Str) (l:List Stmt):List Stmt:=(l.findSome? λs=>match s with
 |.ClassDef n _ _ b _ _ _ _ _ _ _=>if n==x then some b else none
 |_=>none).getD []
noncomputable abbrev pw:Program:=Challenge.pw_nm0037_01
noncomputable def astOf (f:Nat):List Stmt:=match decide (f < 46) with
 |true=>fnIn (S' (fnN f)) pw.main.body
 |false=>fnIn (S' "__init__") (clsBody (S' (clsN (f - 46))) pw.main.body)
noncomputable def bodies (K:Frag):List (Option (List Stmt))×List (Option (List Stmt)):=((List.range 46).map (λf=>bodyAt K (fnAddr K f)),(List.range 3).map (λc=>bodyAt K (iniAddr K c)))
noncomputable def obs (s:Shared):Bool×List (List Int)×List (Option (List Stmt))×List (Option (List Stmt)):=
 (match kOf s.heap with
  |K=>(List.range 46).all (fnsChk astOf K)&&(List.range 3).all (λc=>iniChk astOf K c&&clsChk K c)&&(List.range 5).all (globChk K)&&biTab.all (λp=>biChk K p.1)&&(List.range 7).all (dChk K),(List.range 7).map (dHash (kOf s.heap)),bodies (kOf s.heap))
noncomputable def val (w:World):Bool×List (List Int)×List (Option (List Stmt))×List (Option (List Stmt)):=
 (true,(List.range 7).map λk=>(dictK k).map λn=>PyData.keyHash w.params (S' n),(List.range 46).map (made astOf),(List.range 3).map λc=>made astOf (46+c))
noncomputable def Says (w:World) (h:Heap):Prop:=∃ K:Frag,K.In h∧KFact astOf K w.params
theorem says_of (w:World)(s:Shared)(h:obs s=val w):Says w s.heap:=by
 obtain⟨h,h6⟩:=Prod.mk.inj h
 obtain⟨h6,h7⟩:=Prod.mk.inj h6
 obtain⟨h7,h8⟩:=Prod.mk.inj h7
 have h:((List.range 46).all (fnsChk astOf (kOf s.heap))&&(List.range 3).all (λc=>iniChk astOf (kOf s.heap) c&&clsChk (kOf s.heap) c)&&(List.range 5).all (globChk (kOf s.heap))&&biTab.all (λp=>biChk (kOf s.heap) p.1)&&(List.range 7).all (dChk (kOf s.heap)))=true:=h
 simp only[Bool.and_eq_true] at h
 exact⟨kOf s.heap,kOf_in _,kfact_of h.1.1.1.1 (by simpa only[Bool.and_eq_true] using h.1.1.1.2) h.1.1.2 h.1.2 h.2 h6 h7 h8⟩
theorem says_keeps (w:World)(h h':Heap)(x:Says w h)(k:∀ b o,h.get? b=some o→h'.get? b=some o):Says w h':=let ⟨K,a,b⟩:=x;⟨K,a.keeps k,b⟩
noncomputable def qv:Program:=view pw [66]
noncomputable def loose:List Str:=(["CodeFault","MASK","BINARY","UNARY","ENDS","Step","Block","Func","followers","check_operand","wanted_args","check_more","check_step","check_end","set_at_ends","check_set","check_func","ROUND","EFFECTS","DIVISIONS","has_effect","can_fault","is_plain","preds","postorder","in_place_of","CALLS","SELDOM_FREE","slot_steps","times_set","slot_registers","is_free","need_ahead","need_behind","needs_ahead","without_register","swept_steps","sweep_steps","is_plain_store","taken_slots","is_store_to","sweep_stores","sweep_func","_law_EDGES","_law_BASES","_law_SIZES","_law_draw","_law_any","_law_access","_law_reach","_law_line","_law_program","_law_body","_law_listing","_law_get","_law_lay","_law_is_own","_law_do","_law_play","_law_is_less","_law_is_swept"]:List String).map Str.ofString
theorem boot_p (w:World):(fencedOpening treeTable pw w 6672).map (λs=>(s.heap,s.gens,s.drawn,s.toks))=some (boot_heap w.params,Array.mk [],boot_drawn,boot_toks):=
 boot_open (by kernel_rfl) (by decide) (λs=>by kernel_rfl) w
theorem size_ok (w:World):((boot_heap w.params).isNs mainGlobals,(boot_heap w.params).nsMap mainGlobals "__annotations__")=(true,some (.ref 6)):=by kernel_rfl
noncomputable abbrev Xtt (s:Shared):Bool:=xlAt qv [] s&&recOk [] s
noncomputable def fin (w:World) (os:OsState):Option SharedT:=topT PySem.W.Fast.tw10156331382660048174 PySem.W.Fast.tw6613529449190102663 (PySem.W.Fast.tw11892475500146522536 PySem.W.Fast.tw14364793385576792824) pw w 11 (some (.ref 6)) 6672 (s0 w os) (topStub pw)
noncomputable def LookA (w:World):Prop:=∀ os,(fin w os).map (λt=>(staticsOk (importedModules pw.main.body) (boot_heap w.params) t.abs.heap&&namesBound pw t.abs.heap&&gensDone t.abs&&laidKept (boot_heap w.params) t.abs.heap,
    PySem.W.Fast.tw4187177175401517315 qv loose (importedModules pw.main.body) Xtt true t.abs))=some (true,openGood qv loose)
noncomputable def LookB (w:World):Prop:=∀ os,(fin w os).map (λt=>obs t.abs)=some (val w)
theorem lookA0 (w:World):LookA (w.withFollow "special-get-raises" false):=λos=>by kernel_rfl
theorem lookA1 (w:World):LookA (w.withFollow "special-get-raises" true):=λos=>by kernel_rfl
theorem lookB0 (w:World):LookB (w.withFollow "special-get-raises" false):=λos=>by kernel_rfl
theorem lookB1 (w:World):LookB (w.withFollow "special-get-raises" true):=λos=>by kernel_rfl
theorem map3 {α β γ δ:Type}{o:Option α}{f:α→β×γ}{g:α→δ}{b:β}{c:γ}{d:δ}(h:o.map f=some (b,c))(k:o.map g=some d):o.map (λt=>((f t).1,(f t).2,g t))=some (b,c,d):=by
 cases o with
 |none=>cases h
 |some a=>rw[Option.map_some,Option.some.injEq] at h k ⊢;rw[h,k]
theorem left:LeftO pw qv loose Xtt obs val 6672:=
 left_T boot_p PySem.W.Fast.te10156331382660048174 PySem.W.Fast.te6613529449190102663 (by rw[PySem.W.Fast.te11892475500146522536,PySem.W.Fast.te14364793385576792824]) PySem.W.Fast.te4187177175401517315 size_ok
  λw os=>map3 (byRow2 "special-get-raises" lookA0 lookA1 w os) (byRow2 "special-get-raises" lookB0 lookB1 w os)
end Mine.Internal
set_option tactic.hygienic true
namespace Mine.Internal
open PySem PySem.W PySem.Calls PyProof.Rows
theorem said : Challenge.rw_nm0037_01.wellSaid = true := by rw [PySem.W.Fast.te9446332074065402090]; kernel_rfl
end Mine.Internal
open PySem PySem.W PyProof.Rows
set_option maxHeartbeats 8000000 in
theorem PySem.Challenge.cw_nm0037_01_holds : PySem.Challenge.rw_nm0037_01.Holds := by
  refine holds_law Mine.Internal.said fun said => ?_
  refine holds_open (q := Mine.Internal.qv) (loose := Mine.Internal.loose) (Xt := Mine.Internal.Xtt) (XP := XL Mine.Internal.qv []) (Yf := Mine.Internal.obs) (Ya := Mine.Internal.val) (YP := Mine.Internal.Says) (N := 6672) Mine.Internal.left Mine.Internal.says_of Mine.Internal.says_keeps (fun s e => xl_of s (Bool.and_eq_true_iff.mp e).1) XL.keeps (by rfl) (by rfl) (by rfl) (fun s e => recFacts_of (Bool.and_eq_true_iff.mp e).2) (by rfl) (by first | assumption | decide +kernel) (by decide +kernel) ⟨rfl, rfl, rfl, rfl, rfl, by decide +kernel⟩ ?hw ?hc
  case hw => w_witness2
  case hc =>
    w_strict (
      intro w s₀ s₁ mg mb G Y fa o pm cd doc dV kV ho hd hcd hD hmg hg args vals as hpre hlay hrd hwl hlo
      obtain ⟨K, KX, KF⟩ := Y
      refine Ground.open G ?_
      intro T B D TE TW
      wrow_args hpre hlay hrd hwl hlo
      all_goals (first | refine callC_kw (enter_call ?_) | refine enter_call ?_)
      (refine Mine.Internal.join Mine.Internal.spec (Mine.Internal.gok_of (w := w) KX (topRead_of T) KF) hmg (by assumption) (by omega) ?_)
      intro s' hk hgs hos
      refine GoodW.toG ⟨.inl ⟨_, _, _, rfl, raisesW_false (by wrow_none_raised), .bool true, ?_, unshared_nil⟩, hk, hos, hgs.trans hg⟩
      exact postW_of (by wrow_shape) (by wtm_val) (by w_fin))
