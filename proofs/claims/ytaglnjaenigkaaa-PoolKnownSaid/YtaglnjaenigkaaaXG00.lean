import Derived.Calls
import Derived.Orders
import Derived.KernelRfl
set_option linter.unusedSimpArgs false
set_option linter.unusedVariables false
section
namespace Go.Am
inductive AV where
 | undef
 | bool (b:Bool)
 | int (k:IntKind) (n:Int)
 | str (s:ByteArray)
 | nilp
 | ptr (i o:Nat)
 | nils
 | sl (i o len:Nat) (cap:Option Nat)
 | nilm
 | map (i:Nat)
 | nilf
 | fn (f:Nat) (first cap:List AV)
 | agg (cs:List AV)
 | tup (vs:List AV)
 | mt
 | yld (l:Nat)
 deriving Inhabited
abbrev AV.skip:AV:=.tup []
def AV.one:AV→Bool
 | .agg _ | .tup _ | .undef=>false
 | _=>true
def AV.cells:AV→List AV
 | .agg cs=>cs
 | v=>[v]
inductive Chunk (X:Type) where
 | cells (sz:Nat) (ro:Bool) (l:List AV)
 | abs (x:X)
 | dead
 | tab (l:List (Int × Nat × AV)) (clock:Nat)
 | rtab (l:List (Int × Nat × AV))
abbrev Mem(X:Type):=List (Chunk X)
abbrev AFun(X:Type):=List AV→Mem X→Option (AV × Mem X)
inductive Src where
 | loc (j:Nat)
 | tmp (k:Nat)
 | c (v:AV)
 deriving Inhabited
inductive EK where
 | bool|ptr|slc|map|agg (sh:List Bool)
 deriving Inhabited,DecidableEq
inductive AOp where
 | mov
 | pick
 | box
 | alloc (zero:List AV)
 | build (zero:List AV) (parts:List (Nat × Nat))
 | lit (n sz:Nat) (zero:List AV) (parts:List (Nat × Nat))
 | load (n:Option Nat)
 | store (n:Nat)
 | nilc
 | bin (op:BinOp)
 | shf (op:BinOp)
 | eqv (k:EK) (neg:Bool)
 | not
 | neg
 | conv (k:IntKind)
 | mkfn (f:Nat) (n:Nat)
 | make (sz bytes:Nat) (zero:List AV)
 | slice (sz:Nat) (lo hi mx:Bool)
 | faddr (off:Nat)
 | iaddr (sz:Nat) (arr:Option Nat)
 | field (off:Nat) (n:Option Nat)
 | index (len sz:Nat) (n:Option Nat)
 | extract (i:Nat)
 | call (f:Nat)
 | callv
 | len
 | append (sz bytes:Nat)
 | min
 | max
 | clear (sz:Nat) (zero:List AV)
 | trap
 | cap
 | lit0
 | mkmap
 | mget (ok:Bool) (zero:AV)
 | mset
 | mdel
 | ment (zero:AV)
 | mput
 | mlen
 | appendz (sz bytes:Nat) (zero:List AV)
 deriving Inhabited
structure AOper where
 op:AOp
 args:List Src
 dst:Option Nat:=none
 guard:Option (Nat × Bool):=none
 deriving Inhabited
inductive AC where
 | skip
 | region (ops:List AOper)
 | draw (perm:List Nat) (h:Nat) (ops:List AOper) (stab:List (Nat × List Nat))
 | seq (a b:AC)
 | cond (c:Src) (t e:AC)
 | block (id:Nat) (b:AC)
 | loop (b:AC)
 | exit (id:Nat)
 | ret
 | scope (b:AC)
 | goto (l:Nat)
 | scopeg (l:Nat) (rest b:AC)
 deriving Inhabited
inductive AX where
 | normal
 | exit (id:Nat)
 | ret
 | goto (l:Nat)
inductive ARes where
 | loc (j:Nat)
 | cell (j:Nat) (n:Option Nat)
 deriving Inhabited
structure AFn where
 nloc:Nat
 npar:Nat
 body:AC
 res:List ARes
def FUEL:Nat:=1099511627776
section
variable {X:Type}
def getS(env rt:List AV):Src→AV
 | .loc j=>env.getD j .skip
 | .tmp k=>rt.getD k .skip
 | .c v=>v
def getC(m:Mem X) (i:Nat):Option (Nat × Bool × List AV) :=
 match m[i]? with
 | some (.cells sz ro l)=>some (sz,ro,l)
 | _=>none
def loadN(m:Mem X) (i o:Nat):Option Nat→Option AV
 | none=>match getC m i with
  | some (_,_,l)=>l[o]?
  | none=>none
 | some n=>match getC m i with
  | some (_,_,l)=>if o+n≤l.length then some (.agg ((l.drop o).take n)) else none
  | none=>none
def splice{α:Type} (l:List α) (o:Nat) (vs:List α):List α:=l.take o++vs++l.drop (o+vs.length)
def storeN(m:Mem X) (i o n:Nat) (v:AV):Option (Mem X) :=
 match getC m i with
 | some (sz,false,l) =>
  if v.cells.length=n∧o+n≤l.length∧v.cells.all AV.one=true then some (m.set i (.cells sz false (splice l o v.cells))) else none
 | _=>none
def fillA:List AV→List (Nat × Nat)→List AV→Option (List AV)
 | z,[],[]=>some z
 | z,(off,size) :: ps,v :: vs=>if v.cells.length=size∧off+size≤z.length∧v.cells.all AV.one=true then fillA (splice z off v.cells) ps vs else none
 | _,_,_=>none
def binI(op:BinOp) (k:IntKind) (a b:Int):Option AV :=
 match op with
 | .add=>some (.int k (k.wrap (a+b)))
 | .sub=>some (.int k (k.wrap (a - b)))
 | .mul=>some (.int k (k.wrap (a * b)))
 | .quo=>if b=0 then none else some (.int k (k.wrap (a.tdiv b)))
 | .rem=>if b=0 then none else some (.int k (a.tmod b))
 | .and=>some (.int k (k.wrap ((BitVec.ofInt k.bits a &&& BitVec.ofInt k.bits b).toNat:Int)))
 | .or=>some (.int k (k.wrap ((BitVec.ofInt k.bits a ||| BitVec.ofInt k.bits b).toNat:Int)))
 | .xor=>some (.int k (k.wrap ((BitVec.ofInt k.bits a ^^^ BitVec.ofInt k.bits b).toNat:Int)))
 | .andNot=>some (.int k (k.wrap ((BitVec.ofInt k.bits a &&& ~~~ BitVec.ofInt k.bits b).toNat:Int)))
 | .eql=>some (.bool (a == b))
 | .neq=>some (.bool (a != b))
 | .lss=>some (.bool (decide (a < b)))
 | .leq=>some (.bool (decide (a≤b)))
 | .gtr=>some (.bool (decide (a > b)))
 | .geq=>some (.bool (decide (a ≥ b)))
 | _=>none
def shfI(op:BinOp) (k:IntKind) (a b:Int):Option AV :=
 if b < 0 then none else
 match op with
 | .shl=>some (.int k (k.wrap (a * 2 ^ (Nat.min b.toNat k.bits))))
 | .shr=>some (.int k (a.fdiv (2 ^ (Nat.min b.toNat k.bits))))
 | _=>none
def eqAll:List Bool→List AV→List AV→Option Bool
 | [],[],[]=>some true
 | true :: sh,.int k a :: xs,.int k' b :: ys=>if k=k' then(match eqAll sh xs ys with|some r=>some ((a == b) && r)|none=>none) else none
 | false :: sh,.bool a :: xs,.bool b :: ys=>match eqAll sh xs ys with|some r=>some ((a == b) && r)|none=>none
 | _,_,_=>none
def eqV(m:Mem X):EK→AV→AV→Option Bool
 | .bool,.bool a,.bool b=>some (a == b)
 | .ptr,.nilp,.nilp=>some true
 | .ptr,.nilp,.ptr _ _=>some false
 | .ptr,.ptr _ _,.nilp=>some false
 | .ptr,.ptr i p,.ptr j q=>if i=j then some (p == q) else match getC m i,getC m j with
  | some (_,false,_),some (_,false,_)=>some false
  | _,_=>none
 | .slc,.nils,.nils=>some true
 | .slc,.sl _ _ _ _,.nils=>some false
 | .slc,.nils,.sl _ _ _ _=>some false
 | .slc,.mt,.nils=>some false
 | .slc,.nils,.mt=>some false
 | .map,.nilm,.nilm=>some true
 | .map,.map _,.nilm=>some false
 | .map,.nilm,.map _=>some false
 | .agg sh,.agg xs,.agg ys=>eqAll sh xs ys
 | _,_,_=>none
def optN(b:Bool) (vs:List AV):Option (Option Nat × List AV) :=
 match b,vs with
 | false,vs=>some (none,vs)
 | true,.int _ n :: vs=>if 0≤n then some (some n.toNat,vs) else none
 | true,_=>none
def sliceA(m:Mem X) (sz:Nat) (x:AV) (lo hi mx:Option Nat):Option AV :=
 match x with
 | .nils=>if lo.getD 0=0∧hi.getD 0=0∧mx.getD 0=0∧(mx=none∨hi≠none) then some .nils else none
 | .sl i o len (some cap) =>
  if mx.getD cap≤cap∧hi.getD len≤mx.getD cap∧lo.getD 0≤hi.getD len∧(mx=none∨hi≠none) then
   some (.sl i (if mx.getD cap=lo.getD 0 then o else o+lo.getD 0 * sz) (hi.getD len - lo.getD 0) (some (mx.getD cap - lo.getD 0))) else none
 | .sl i o len none =>
  match mx with
  | some k =>
   if k≤len∧hi.getD len≤k∧lo.getD 0≤hi.getD len∧hi≠none then
    some (.sl i (if k=lo.getD 0 then o else o+lo.getD 0 * sz) (hi.getD len - lo.getD 0) (some (k - lo.getD 0))) else none
  | none =>
   match getC m i with
   | some (z,_,_)=>if z=sz∧hi.getD len≤len∧lo.getD 0≤hi.getD len then some (.sl i (o+lo.getD 0 * sz) (hi.getD len - lo.getD 0) none) else none
   | none=>none
 | _=>none
def rowOf(m:Mem X) (sz:Nat):AV→Option (List AV)
 | .nils=>some []
 | .mt=>some []
 | .sl i o len _=>if len=0 then some [] else match getC m i with
  | some (_,_,l)=>if o+len * sz≤l.length then some ((l.drop o).take (len * sz)) else none
  | none=>none
 | _=>none
def lenA:AV→Option Nat
 | .nils=>some 0
 | .mt=>some 0
 | .sl _ _ len _=>some len
 | _=>none
def appendA(sz bytes:Nat) (s x:AV) (m:Mem X):Option (AV × Mem X) :=
 match lenA x,rowOf m sz x with
 | some n,some new =>
  match s with
  | .nils=>if n=0 then some (.nils,m) else
   if n * bytes≤35184372088832∧n≤35184372088832∧new.all AV.one=true then some (.sl m.length 0 n none,m++[.cells sz false new]) else none
  | .mt=>if n=0 then some (.mt,m) else
   if n * bytes≤35184372088832∧n≤35184372088832∧new.all AV.one=true then some (.sl m.length 0 n none,m++[.cells sz false new]) else none
  | .sl i o len (some c) =>
   if n=0 then(if len≤c then some (.sl i o len (some c),m) else none) else
   if len+n≤c then
    match getC m i with
    | some (z,false,l)=>if o+(len+n) * sz≤l.length∧new.all AV.one=true then some (.sl i o (len+n) (some c),m.set i (.cells z false (splice l (o+len * sz) new))) else none
    | _=>none
   else
    match rowOf m sz (.sl i o len (some c)) with
    | some old=>if (len+n) * bytes≤35184372088832∧len+n≤35184372088832∧(old++new).all AV.one=true then some (.sl m.length 0 (len+n) none,m++[.cells sz false (old++new)]) else none
    | none=>none
  | .sl i o len none =>
   if n=0 then some (.sl i o len none,m) else
   match getC m i with
   | some (z,false,l) =>
    if z=sz∧o+len * sz≤l.length∧(len+n) * bytes≤35184372088832∧len+n≤35184372088832∧((l.drop o).take (len * sz)++new).all AV.one=true then
     some (.sl m.length 0 (len+n) none,(m.set i .dead)++[.cells sz false ((l.drop o).take (len * sz)++new)]) else none
   | _=>none
  | _=>none
 | _,_=>none
def assoc(G:List (Nat × AFun X)) (f:Nat):Option (AFun X) :=
 match G with
 | []=>none
 | (g,F) :: G=>if g=f then some F else assoc G f
def foldI(f:Int→Int→Int) (k:IntKind):Int→List AV→Option Int
 | n,[]=>some n
 | n,.int k' b :: vs=>if k=k' then foldI f k (f n b) vs else none
 | _,_=>none
def repeatL(n:Nat) (z:List AV):List AV:=(List.replicate n z).flatten
def clearA(sz:Nat) (z:List AV) (x:AV) (m:Mem X):Option (Mem X) :=
 match x with
 | .nils=>some m
 | .sl i o len _=>if len=0 then some m else storeN m i o (len * sz) (.agg (repeatL len z))
 | _=>none
def capA:AV→Option Nat
 | .nils=>some 0
 | .sl _ _ _ (some c)=>some c
 | _=>none
def tabGet(k:Int):List (Int × Nat × AV)→Option AV
 | []=>none
 | (k',_,v) :: l=>if k=k' then some v else tabGet k l
def tabSet(k:Int) (v:AV) (c:Nat):List (Int × Nat × AV)→List (Int × Nat × AV)
 | []=>[(k,c,v)]
 | (k',b,v') :: l=>if k=k' then(k,b,v) :: l else(k',b,v') :: tabSet k v c l
def tabDel(k:Int):List (Int × Nat × AV)→List (Int × Nat × AV)
 | []=>[]
 | (k',b,v') :: l=>if k=k' then l else(k',b,v') :: tabDel k l
def tabBorn(k:Int):List (Int × Nat × AV)→Option (Nat × AV)
 | []=>none
 | (k',b,v) :: l=>if k=k' then some (b,v) else tabBorn k l
def tabPut(b:Int) (v:AV):List (Int × Nat × AV)→Option (List (Int × Nat × AV))
 | []=>none
 | (k',b',v') :: l=>if (b':Int)=b then some ((k',b',v) :: l) else match tabPut b v l with
  | some l=>some ((k',b',v') :: l)
  | none=>none
def getT(m:Mem X) (i:Nat):Option (List (Int × Nat × AV) × Nat) :=
 match m[i]? with
 | some (.tab l c)=>some (l,c)
 | _=>none
def tabOf(m:Mem X):AV→Option (List (Int × Nat × AV))
 | .nilm=>some []
 | .map i=>match m[i]? with
  | some (.tab l _)=>some l
  | some (.rtab l)=>some l
  | _=>none
 | _=>none
def tabTick(k:Int) (l:List (Int × Nat × AV)) (c:Nat):Nat :=
 match tabGet k l with
 | some _=>c
 | none=>c+1
def mgetA(ok:Bool) (zero:AV) (r:Option AV):AV :=
 if ok=true then .tup [r.getD zero,.bool r.isSome] else r.getD zero
def amOp(G:List (Nat × AFun X)) (op:AOp) (vs:List AV) (m:Mem X):Option (AV × Mem X) :=
 match op,vs with
 | .mov,[v]=>some (v,m)
 | .pick,[.bool c,a,b]=>some (cond c a b,m)
 | .box,[v]=>if v.cells.all AV.one=true then some (.ptr m.length 0,m++[.cells v.cells.length false v.cells]) else none
 | .alloc z,[]=>some (.ptr m.length 0,m++[.cells z.length false z])
 | .build z ps,vs=>match fillA z ps vs with|some cs=>some (.agg cs,m)|none=>none
 | .lit n sz z ps,vs=>match fillA (repeatL n z) ps vs with
  | some cs=>if cs.all AV.one=true then some (.sl m.length 0 n (some n),m++[.cells sz false cs]) else none
  | none=>none
 | .load n,[.ptr i o]=>match loadN m i o n with|some v=>some (v,m)|none=>none
 | .store n,[.ptr i o,v]=>match storeN m i o n v with|some m'=>some (.skip,m')|none=>none
 | .nilc,[.ptr i o]=>some (.ptr i o,m)
 | .nilc,[.fn f a b]=>some (.fn f a b,m)
 | .bin op,[.int k a,.int k' b]=>if k=k' then(match binI op k a b with|some v=>some (v,m)|none=>none) else none
 | .shf op,[.int k a,.int _ b]=>match shfI op k a b with|some v=>some (v,m)|none=>none
 | .eqv k neg,[x,y]=>match eqV m k x y with|some b=>some (.bool (xor neg b),m)|none=>none
 | .not,[.bool b]=>some (.bool (!b),m)
 | .neg,[.int k n]=>some (.int k (k.wrap (0 - n)),m)
 | .conv k,[.int _ n]=>some (.int k (k.wrap n),m)
 | .mkfn f n,vs=>if n≤vs.length then some (.fn f (vs.take n) (vs.drop n),m) else none
 | .make sz bytes z,[.int .i64 n,.int .i64 c] =>
  if 0≤n∧n≤c∧c.toNat * bytes≤140737488355328∧c≤140737488355328 then
   some (.sl m.length 0 n.toNat (some c.toNat),m++[.cells sz false (repeatL c.toNat z)]) else none
 | .slice sz lo hi mx,x :: vs =>
  match optN lo vs with
  | some (l,vs)=>match optN hi vs with
   | some (h,vs)=>match optN mx vs with
    | some (k,[])=>match sliceA m sz x l h k with|some v=>some (v,m)|none=>none
    | _=>none
   | none=>none
  | none=>none
 | .faddr off,[.ptr i o]=>some (.ptr i (o+off),m)
 | .iaddr sz none,[.sl i o len _,.int _ n]=>if 0≤n∧n < len then some (.ptr i (o+n.toNat * sz),m) else none
 | .iaddr sz (some len),[.ptr i o,.int _ n]=>if 0≤n∧n < len then some (.ptr i (o+n.toNat * sz),m) else none
 | .field off none,[.agg cs]=>match cs[off]? with|some v=>some (v,m)|none=>none
 | .field off (some n),[.agg cs]=>if off+n≤cs.length then some (.agg ((cs.drop off).take n),m) else none
 | .index len sz none,[.agg cs,.int _ n]=>if 0≤n∧n < len then(match cs[n.toNat * sz]? with|some v=>some (v,m)|none=>none) else none
 | .index len sz (some k),[.agg cs,.int _ n]=>if 0≤n∧n < len∧n.toNat * sz+k≤cs.length then some (.agg ((cs.drop (n.toNat * sz)).take k),m) else none
 | .extract i,[.tup vs]=>match vs[i]? with|some v=>some (v,m)|none=>none
 | .call f,vs=>match assoc G f with|some F=>F vs m|none=>none
 | .callv,.fn f first cap :: vs=>match assoc G f with|some F=>F (first++vs++cap) m|none=>none
 | .len,[x]=>match lenA x with|some n=>some (.int .i64 n,m)|none=>none
 | .append sz bytes,[s,x]=>appendA sz bytes s x m
 | .min,.int k n :: vs=>match foldI (fun a b=>if b < a then b else a) k n vs with|some r=>some (.int k r,m)|none=>none
 | .max,.int k n :: vs=>match foldI (fun a b=>if b > a then b else a) k n vs with|some r=>some (.int k r,m)|none=>none
 | .clear sz z,[x]=>match clearA sz z x m with|some m'=>some (.skip,m')|none=>none
 | .cap,[x]=>match capA x with|some n=>some (.int .i64 n,m)|none=>none
 | .lit0,[]=>some (.mt,m)
 | .mkmap,[]=>some (.map m.length,m++[.tab [] 0])
 | .mget ok z,[x,.int .i64 k]=>match tabOf m x with|some l=>some (mgetA ok z (tabGet k l),m)|none=>none
 | .mset,[.map i,.int .i64 k,v]=>match getT m i with|some (l,c)=>some (.skip,m.set i (.tab (tabSet k v c l) (tabTick k l c)))|none=>none
 | .mdel,[.map i,.int .i64 k]=>match getT m i with|some (l,c)=>some (.skip,m.set i (.tab (tabDel k l) c))|none=>none
 | .ment z,[.map i,.int .i64 k]=>match getT m i with
  | some (l,c)=>match tabBorn k l with
   | some (b,v)=>some (.tup [v,.int .i64 b],m)
   | none=>some (.tup [z,.int .i64 c],m.set i (.tab (l++[(k,c,z)]) (c+1)))
  | none=>none
 | .mput,[.map i,.int .i64 b,v]=>match getT m i with
  | some (l,c)=>match tabPut b v l with
   | some l'=>some (.skip,m.set i (.tab l' c))
   | none=>none
  | none=>none
 | .appendz sz bytes z,[.nils,.int .i64 n]=>if 0 < n∧n.toNat * bytes≤35184372088832∧n≤35184372088832 then some (.sl m.length 0 n.toNat none,m++[.cells sz false (repeatL n.toNat z)]) else none
 | .mlen,[x]=>match tabOf m x with|some l=>some (.int .i64 l.length,m)|none=>none
 | _,_=>none
def wantedA(rt:List AV):Option (Nat × Bool)→Option Bool
 | none=>some true
 | some (j,want)=>match rt[j]? with
  | some (.bool b)=>some (b == want)
  | some (.tup [])=>some false
  | _=>none
def putL(env:List AV):Option Nat→AV→List AV
 | some d,v=>env.set d v
 | none,_=>env
def amOps(G:List (Nat × AFun X)):List AOper→List AV→List AV→Mem X→Option (List AV × Mem X)
 | [],env,_,m=>some (env,m)
 | o :: os,env,rt,m =>
  match wantedA rt o.guard with
  | some true=>match amOp G o.op (o.args.map (getS env rt)) m with
   | some (v,m')=>amOps G os (putL env o.dst v) (rt++[v]) m'
   | none=>none
  | some false=>amOps G os (putL env o.dst .skip) (rt++[.skip]) m
  | none=>none
def amOpsT(G:List (Nat × AFun X)):List AOper→List AV→List AV→Mem X→Option (List AV × Mem X × List (Bool × List AV × AV × Mem X))
 | [],env,_,m=>some (env,m,[])
 | o :: os,env,rt,m =>
  match wantedA rt o.guard with
  | some true=>match amOp G o.op (o.args.map (getS env rt)) m with
   | some (v,m')=>match amOpsT G os (putL env o.dst v) (rt++[v]) m' with
    | some (e',m'',tr)=>some (e',m'',(true,o.args.map (getS env rt),v,m) :: tr)
    | none=>none
   | none=>none
  | some false=>match amOpsT G os (putL env o.dst .skip) (rt++[.skip]) m with
   | some (e',m'',tr)=>some (e',m'',(false,o.args.map (getS env rt),.skip,m) :: tr)
   | none=>none
  | none=>none
mutual
def AV.beq:AV→AV→Bool
 | .undef,.undef=>true
 | .bool a,.bool b=>a == b
 | .int k a,.int k' b=>decide (k=k') && decide (a=b)
 | .str a,.str b=>decide (a.data.toList=b.data.toList)
 | .nilp,.nilp=>true
 | .ptr i o,.ptr j q=>decide (i=j) && decide (o=q)
 | .nils,.nils=>true
 | .sl i o n c,.sl j q k d=>decide (i=j) && decide (o=q) && decide (n=k) && decide (c=d)
 | .nilm,.nilm=>true
 | .map i,.map j=>decide (i=j)
 | .nilf,.nilf=>true
 | .fn f a b,.fn g c d=>decide (f=g) && AV.beqL a c && AV.beqL b d
 | .agg a,.agg b=>AV.beqL a b
 | .tup a,.tup b=>AV.beqL a b
 | .mt,.mt=>true
 | .yld i,.yld j=>decide (i=j)
 | _,_=>false
def AV.beqL:List AV→List AV→Bool
 | [],[]=>true
 | a :: as,b :: bs=>AV.beq a b && AV.beqL as bs
 | _,_=>false
end

def memAt(tr:List (Bool × List AV × AV × Mem X)) (m:Mem X) (c:Nat):Mem X :=
 match tr[c]? with
 | some (_,_,_,m')=>m'
 | none=>m
def sameAt(G:List (Nat × AFun X)) (op:AOp) (e:Bool × List AV × AV × Mem X) (m:Mem X):Bool :=
 match op,e with
 | .alloc z,(_,_,.ptr i _,_)=>match getC m i with
  | some (sz,false,l)=>decide (sz=z.length) && AV.beqL l z
  | _=>false
 | op,(true,vs,v,_)=>match amOp G op vs m with
  | some (v',_)=>AV.beq v' v
  | none=>false
 | _,(false,_,_,_)=>true
def stabOk(G:List (Nat × AFun X)) (ops:List AOper) (tr:List (Bool × List AV × AV × Mem X)) (m:Mem X) (stab:List (Nat × List Nat)):Bool :=
 stab.all fun x=>match ops[x.1]?,tr[x.1]? with
  | some o,some e=>x.2.all fun c=>sameAt G o.op e (memAt tr m c)
  | _,_=>false
def iter(f:List AV→Mem X→Option (AX × List AV × Mem X)):Nat→List AV→Mem X→Option (AX × List AV × Mem X)
 | 0,_,_=>none
 | n+1,e,m=>match f e m with
  | some (.normal,e',m')=>iter f n e' m'
  | r=>r
def am(G:List (Nat × AFun X)):AC→List AV→Mem X→Option (AX × List AV × Mem X)
 | .skip,e,m=>some (.normal,e,m)
 | .region ops,e,m=>match amOps G ops e [] m with
  | some (e',m')=>some (.normal,e',m')
  | none=>none
 | .draw _ _ ops stab,e,m=>match amOpsT G ops e [] m with
  | some (e',m',tr)=>if stabOk G ops tr m' stab=true then some (.normal,e',m') else none
  | none=>none
 | .seq a b,e,m=>match am G a e m with
  | some (.normal,e',m')=>am G b e' m'
  | r=>r
 | .cond c t f,e,m=>match getS e [] c with
  | .bool b=>if b=true then am G t e m else am G f e m
  | _=>none
 | .block id b,e,m=>match am G b e m with
  | some (.exit id',e',m')=>if id'=id then some (.normal,e',m') else some (.exit id',e',m')
  | r=>r
 | .loop b,e,m=>iter (am G b) FUEL e m
 | .exit id,e,m=>some (.exit id,e,m)
 | .ret,e,m=>some (.ret,e,m)
 | .scope b,e,m=>am G b e m
 | .goto l,e,m=>some (.goto l,e,m)
 | .scopeg l r b,e,m=>match am G b e m with
  | some (.goto l',e',m')=>if l'=l then(match am G r e' m' with
   | some (.goto _,_,_)=>none
   | x=>x) else none
  | x=>x
def resA(e:List AV) (m:Mem X):ARes→Option AV
 | .loc j=>some (e.getD j .skip)
 | .cell j n=>match e.getD j .skip with
  | .ptr i o=>loadN m i o n
  | _=>none
def resAll(e:List AV) (m:Mem X):List ARes→Option (List AV)
 | []=>some []
 | r :: rs=>match resA e m r,resAll e m rs with
  | some v,some vs=>some (v :: vs)
  | _,_=>none
def tupA:List AV→AV
 | [v]=>v
 | vs=>.tup vs
def amFunc(G:List (Nat × AFun X)) (F:AFn):AFun X:=fun args m =>
 if args.length=F.npar then
  match am G F.body (args++List.replicate (F.nloc - F.npar) .skip) m with
  | some (.normal,e,m')|some (.ret,e,m')=>(match resAll e m' F.res with|some vs=>some (tupA vs,m')|none=>none)
  | _=>none
 else none
end
end Go.Am
end
