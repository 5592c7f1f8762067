import Derived.Calls
import Derived.Orders
import Derived.KernelRfl
set_option linter.unusedSimpArgs false
set_option linter.unusedVariables false
section
namespace Go.Am
inductive AV where
 | undef
 | bool (b:Bool)
 | int (k:IntKind) (n:Int)
 | str (s:ByteArray)
 | nilp
 | ptr (i o:Nat)
 | nils
 | sl (i o len:Nat) (cap:Option Nat)
 | nilm
 | map (i:Nat)
 | nilf
 | fn (f:Nat) (first cap:List AV)
 | agg (cs:List AV)
 | tup (vs:List AV)
 | mt
 | yld (l:Nat)
 deriving Inhabited
abbrev AV.skip:AV:=.tup []
def AV.one:AV→Bool
 | .agg _ | .tup _ | .undef=>false
 | _=>true
def AV.cells:AV→List AV
 | .agg cs=>cs
 | v=>[v]
inductive Chunk (X:Type) where
 | cells (sz:Nat) (ro:Bool) (l:List AV)
 | abs (x:X)
 | dead
 | tab (l:List (Int × Nat × AV)) (clock:Nat)
 | rtab (l:List (Int × Nat × AV))
abbrev Mem(X:Type):=List (Chunk X)
abbrev AFun(X:Type):=List AV→Mem X→Option (AV × Mem X)
inductive Src where
 | loc (j:Nat)
 | tmp (k:Nat)
 | c (v:AV)
 deriving Inhabited
inductive EK where
 | bool|ptr|slc|map|agg (sh:List Bool)
 deriving Inhabited,DecidableEq
inductive AOp where
 | mov
 | pick
 | box
 | alloc (zero:List AV)
 | build (zero:List AV) (parts:List (Nat × Nat))
 | lit (n sz:Nat) (zero:List AV) (parts:List (Nat × Nat))
 | load (n:Option Nat)
 | store (n:Nat)
 | nilc
 | bin (op:BinOp)
 | shf (op:BinOp)
 | eqv (k:EK) (neg:Bool)
 | not
 | neg
 | conv (k:IntKind)
 | mkfn (f:Nat) (n:Nat)
 | make (sz bytes:Nat) (zero:List AV)
 | slice (sz:Nat) (lo hi mx:Bool)
 | faddr (off:Nat)
 | iaddr (sz:Nat) (arr:Option Nat)
 | field (off:Nat) (n:Option Nat)
 | index (len sz:Nat) (n:Option Nat)
 | extract (i:Nat)
 | call (f:Nat)
 | callv
 | len
 | append (sz bytes:Nat)
 | min
 | max
 | clear (sz:Nat) (zero:List AV)
 | trap
 | cap
 | lit0
 | mkmap
 | mget (ok:Bool) (zero:AV)
 | mset
 | mdel
 | ment (zero:AV)
 | mput
 | mlen
 | appendz (sz bytes:Nat) (zero:List AV)
 deriving Inhabited
structure AOper where
 op:AOp
 args:List Src
 dst:Option Nat:=none
 guard:Option (Nat × Bool):=none
 deriving Inhabited
inductive AC where
 | skip
 | region (ops:List AOper)
 | draw (perm:List Nat) (h:Nat) (ops:List AOper) (stab:List (Nat × List Nat))
 | seq (a b:AC)
 | cond (c:Src) (t e:AC)
 | block (id:Nat) (b:AC)
 | loop (b:AC)
 | exit (id:Nat)
 | ret
 | scope (b:AC)
 | goto (l:Nat)
 | scopeg (l:Nat) (rest b:AC)
 deriving Inhabited
inductive AX where
 | normal
 | exit (id:Nat)
 | ret
 | goto (l:Nat)
inductive ARes where
 | loc (j:Nat)
 | cell (j:Nat) (n:Option Nat)
 deriving Inhabited
structure AFn where
 nloc:Nat
 npar:Nat
 body:AC
 res:List ARes
def FUEL:Nat:=1099511627776
section
variable {X:Type}
def getS(env rt:List AV):Src→AV
 | .loc j=>env.getD j .skip
 | .tmp k=>rt.getD k .skip
 | .c v=>v
def getC(m:Mem X) (i:Nat):Option (Nat × Bool × List AV) :=
 match m[i]? with
 | some (.cells sz ro l)=>some (sz,ro,l)
 | _=>none
def loadN(m:Mem X) (i o:Nat):Option Nat→Option AV
 | none=>match getC m i with
  | some (_,_,l)=>l[o]?
  | none=>none
 | some n=>match getC m i with
  | some (_,_,l)=>if o+n≤l.length then some (.agg ((l.drop o).take n)) else none
  | none=>none
def splice{α:Type} (l:List α) (o:Nat) (vs:List α):List α:=l.take o++vs++l.drop (o+vs.length)
def storeN(m:Mem X) (i o n:Nat) (v:AV):Option (Mem X) :=
 match getC m i with
 | some (sz,false,l) =>
  if v.cells.length=n∧o+n≤l.length∧v.cells.all AV.one=true then some (m.set i (.cells sz false (splice l o v.cells))) else none
 | _=>none
def fillA:List AV→List (Nat × Nat)→List AV→Option (List AV)
 | z,[],[]=>some z
 | z,(off,size) :: ps,v :: vs=>if v.cells.length=size∧off+size≤z.length∧v.cells.all AV.one=true then fillA (splice z off v.cells) ps vs else none
 | _,_,_=>none
def binI(op:BinOp) (k:IntKind) (a b:Int):Option AV :=
 match op with
 | .add=>some (.int k (k.wrap (a+b)))
 | .sub=>some (.int k (k.wrap (a - b)))
 | .mul=>some (.int k (k.wrap (a * b)))
 | .quo=>if b=0 then none else some (.int k (k.wrap (a.tdiv b)))
 | .rem=>if b=0 then none else some (.int k (a.tmod b))
 | .and=>some (.int k (k.wrap ((BitVec.ofInt k.bits a &&& BitVec.ofInt k.bits b).toNat:Int)))
 | .or=>some (.int k (k.wrap ((BitVec.ofInt k.bits a ||| BitVec.ofInt k.bits b).toNat:Int)))
 | .xor=>some (.int k (k.wrap ((BitVec.ofInt k.bits a ^^^ BitVec.ofInt k.bits b).toNat:Int)))
 | .andNot=>some (.int k (k.wrap ((BitVec.ofInt k.bits a &&& ~~~ BitVec.ofInt k.bits b).toNat:Int)))
 | .eql=>some (.bool (a == b))
 | .neq=>some (.bool (a != b))
 | .lss=>some (.bool (decide (a < b)))
 | .leq=>some (.bool (decide (a≤b)))
 | .gtr=>some (.bool (decide (a > b)))
 | .geq=>some (.bool (decide (a ≥ b)))
 | _=>none
def shfI(op:BinOp) (k:IntKind) (a b:Int):Option AV :=
 if b < 0 then none else
 match op with
 | .shl=>some (.int k (k.wrap (a * 2 ^ (Nat.min b.toNat k.bits))))
 | .shr=>some (.int k (a.fdiv (2 ^ (Nat.min b.toNat k.bits))))
 | _=>none
def eqAll:List Bool→List AV→List AV→Option Bool
 | [],[],[]=>some true
 | true :: sh,.int k a :: xs,.int k' b :: ys=>if k=k' then(match eqAll sh xs ys with|some r=>some ((a == b) && r)|none=>none) else none
 | false :: sh,.bool a :: xs,.bool b :: ys=>match eqAll sh xs ys with|some r=>some ((a == b) && r)|none=>none
 | _,_,_=>none
def eqV(m:Mem X):EK→AV→AV→Option Bool
 | .bool,.bool a,.bool b=>some (a == b)
 | .ptr,.nilp,.nilp=>some true
 | .ptr,.nilp,.ptr _ _=>some false
 | .ptr,.ptr _ _,.nilp=>some false
 | .ptr,.ptr i p,.ptr j q=>if i=j then some (p == q) else match getC m i,getC m j with
  | some (_,false,_),some (_,false,_)=>some false
  | _,_=>none
 | .slc,.nils,.nils=>some true
 | .slc,.sl _ _ _ _,.nils=>some false
 | .slc,.nils,.sl _ _ _ _=>some false
 | .slc,.mt,.nils=>some false
 | .slc,.nils,.mt=>some false
 | .map,.nilm,.nilm=>some true
 | .map,.map _,.nilm=>some false
 | .map,.nilm,.map _=>some false
 | .agg sh,.agg xs,.agg ys=>eqAll sh xs ys
 | _,_,_=>none
def optN(b:Bool) (vs:List AV):Option (Option Nat × List AV) :=
 match b,vs with
 | false,vs=>some (none,vs)
 | true,.int _ n :: vs=>if 0≤n then some (some n.toNat,vs) else none
 | true,_=>none
def sliceA(m:Mem X) (sz:Nat) (x:AV) (lo hi mx:Option Nat):Option AV :=
 match x with
 | .nils=>if lo.getD 0=0∧hi.getD 0=0∧mx.getD 0=0∧(mx=none∨hi≠none) then some .nils else none
 | .sl i o len (some cap) =>
  if mx.getD cap≤cap∧hi.getD len≤mx.getD cap∧lo.getD 0≤hi.getD len∧(mx=none∨hi≠none) then
   some (.sl i (if mx.getD cap=lo.getD 0 then o else o+lo.getD 0 * sz) (hi.getD len - lo.getD 0) (some (mx.getD cap - lo.getD 0))) else none
 | .sl i o len none =>
  match mx with
  | some k =>
   if k≤len∧hi.getD len≤k∧lo.getD 0≤hi.getD len∧hi≠none then
    some (.sl i (if k=lo.getD 0 then o else o+lo.getD 0 * sz) (hi.getD len - lo.getD 0) (some (k - lo.getD 0))) else none
  | none =>
   match getC m i with
   | some (z,_,_)=>if z=sz∧hi.getD len≤len∧lo.getD 0≤hi.getD len then some (.sl i (o+lo.getD 0 * sz) (hi.getD len - lo.getD 0) none) else none
   | none=>none
 | _=>none
def rowOf(m:Mem X) (sz:Nat):AV→Option (List AV)
 | .nils=>some []
 | .mt=>some []
 | .sl i o len _=>if len=0 then some [] else match getC m i with
  | some (_,_,l)=>if o+len * sz≤l.length then some ((l.drop o).take (len * sz)) else none
  | none=>none
 | _=>none
def lenA:AV→Option Nat
 | .nils=>some 0
 | .mt=>some 0
 | .sl _ _ len _=>some len
 | _=>none
def appendA(sz bytes:Nat) (s x:AV) (m:Mem X):Option (AV × Mem X) :=
 match lenA x,rowOf m sz x with
 | some n,some new =>
  match s with
  | .nils=>if n=0 then some (.nils,m) else
   if n * bytes≤35184372088832∧n≤35184372088832∧new.all AV.one=true then some (.sl m.length 0 n none,m++[.cells sz false new]) else none
  | .mt=>if n=0 then some (.mt,m) else
   if n * bytes≤35184372088832∧n≤35184372088832∧new.all AV.one=true then some (.sl m.length 0 n none,m++[.cells sz false new]) else none
  | .sl i o len (some c) =>
   if n=0 then(if len≤c then some (.sl i o len (some c),m) else none) else
   if len+n≤c then
    match getC m i with
    | some (z,false,l)=>if o+(len+n) * sz≤l.length∧new.all AV.one=true then some (.sl i o (len+n) (some c),m.set i (.cells z false (splice l (o+len * sz) new))) else none
    | _=>none
   else
    match rowOf m sz (.sl i o len (some c)) with
    | some old=>if (len+n) * bytes≤35184372088832∧len+n≤35184372088832∧(old++new).all AV.one=true then some (.sl m.length 0 (len+n) none,m++[.cells sz false (old++new)]) else none
    | none=>none
  | .sl i o len none =>
   if n=0 then some (.sl i o len none,m) else
   match getC m i with
   | some (z,false,l) =>
    if z=sz∧o+len * sz≤l.length∧(len+n) * bytes≤35184372088832∧len+n≤35184372088832∧((l.drop o).take (len * sz)++new).all AV.one=true then
     some (.sl m.length 0 (len+n) none,(m.set i .dead)++[.cells sz false ((l.drop o).take (len * sz)++new)]) else none
   | _=>none
  | _=>none
 | _,_=>none
def assoc(G:List (Nat × AFun X)) (f:Nat):Option (AFun X) :=
 match G with
 | []=>none
 | (g,F) :: G=>if g=f then some F else assoc G f
def foldI(f:Int→Int→Int) (k:IntKind):Int→List AV→Option Int
 | n,[]=>some n
 | n,.int k' b :: vs=>if k=k' then foldI f k (f n b) vs else none
 | _,_=>none
def repeatL(n:Nat) (z:List AV):List AV:=(List.replicate n z).flatten
def clearA(sz:Nat) (z:List AV) (x:AV) (m:Mem X):Option (Mem X) :=
 match x with
 | .nils=>some m
 | .sl i o len _=>if len=0 then some m else storeN m i o (len * sz) (.agg (repeatL len z))
 | _=>none
def capA:AV→Option Nat
 | .nils=>some 0
 | .sl _ _ _ (some c)=>some c
 | _=>none
def tabGet(k:Int):List (Int × Nat × AV)→Option AV
 | []=>none
 | (k',_,v) :: l=>if k=k' then some v else tabGet k l
def tabSet(k:Int) (v:AV) (c:Nat):List (Int × Nat × AV)→List (Int × Nat × AV)
 | []=>[(k,c,v)]
 | (k',b,v') :: l=>if k=k' then(k,b,v) :: l else(k',b,v') :: tabSet k v c l
def tabDel(k:Int):List (Int × Nat × AV)→List (Int × Nat × AV)
 | []=>[]
 | (k',b,v') :: l=>if k=k' then l else(k',b,v') :: tabDel k l
def tabBorn(k:Int):List (Int × Nat × AV)→Option (Nat × AV)
 | []=>none
 | (k',b,v) :: l=>if k=k' then some (b,v) else tabBorn k l
def tabPut(b:Int) (v:AV):List (Int × Nat × AV)→Option (List (Int × Nat × AV))
 | []=>none
 | (k',b',v') :: l=>if (b':Int)=b then some ((k',b',v) :: l) else match tabPut b v l with
  | some l=>some ((k',b',v') :: l)
  | none=>none
def getT(m:Mem X) (i:Nat):Option (List (Int × Nat × AV) × Nat) :=
 match m[i]? with
 | some (.tab l c)=>some (l,c)
 | _=>none
def tabOf(m:Mem X):AV→Option (List (Int × Nat × AV))
 | .nilm=>some []
 | .map i=>match m[i]? with
  | some (.tab l _)=>some l
  | some (.rtab l)=>some l
  | _=>none
 | _=>none
def tabTick(k:Int) (l:List (Int × Nat × AV)) (c:Nat):Nat :=
 match tabGet k l with
 | some _=>c
 | none=>c+1
def mgetA(ok:Bool) (zero:AV) (r:Option AV):AV :=
 if ok=true then .tup [r.getD zero,.bool r.isSome] else r.getD zero
def amOp(G:List (Nat × AFun X)) (op:AOp) (vs:List AV) (m:Mem X):Option (AV × Mem X) :=
 match op,vs with
 | .mov,[v]=>some (v,m)
 | .pick,[.bool c,a,b]=>some (cond c a b,m)
 | .box,[v]=>if v.cells.all AV.one=true then some (.ptr m.length 0,m++[.cells v.cells.length false v.cells]) else none
 | .alloc z,[]=>some (.ptr m.length 0,m++[.cells z.length false z])
 | .build z ps,vs=>match fillA z ps vs with|some cs=>some (.agg cs,m)|none=>none
 | .lit n sz z ps,vs=>match fillA (repeatL n z) ps vs with
  | some cs=>if cs.all AV.one=true then some (.sl m.length 0 n (some n),m++[.cells sz false cs]) else none
  | none=>none
 | .load n,[.ptr i o]=>match loadN m i o n with|some v=>some (v,m)|none=>none
 | .store n,[.ptr i o,v]=>match storeN m i o n v with|some m'=>some (.skip,m')|none=>none
 | .nilc,[.ptr i o]=>some (.ptr i o,m)
 | .nilc,[.fn f a b]=>some (.fn f a b,m)
 | .bin op,[.int k a,.int k' b]=>if k=k' then(match binI op k a b with|some v=>some (v,m)|none=>none) else none
 | .shf op,[.int k a,.int _ b]=>match shfI op k a b with|some v=>some (v,m)|none=>none
 | .eqv k neg,[x,y]=>match eqV m k x y with|some b=>some (.bool (xor neg b),m)|none=>none
 | .not,[.bool b]=>some (.bool (!b),m)
 | .neg,[.int k n]=>some (.int k (k.wrap (0 - n)),m)
 | .conv k,[.int _ n]=>some (.int k (k.wrap n),m)
 | .mkfn f n,vs=>if n≤vs.length then some (.fn f (vs.take n) (vs.drop n),m) else none
 | .make sz bytes z,[.int .i64 n,.int .i64 c] =>
  if 0≤n∧n≤c∧c.toNat * bytes≤140737488355328∧c≤140737488355328 then
   some (.sl m.length 0 n.toNat (some c.toNat),m++[.cells sz false (repeatL c.toNat z)]) else none
 | .slice sz lo hi mx,x :: vs =>
  match optN lo vs with
  | some (l,vs)=>match optN hi vs with
   | some (h,vs)=>match optN mx vs with
    | some (k,[])=>match sliceA m sz x l h k with|some v=>some (v,m)|none=>none
    | _=>none
   | none=>none
  | none=>none
 | .faddr off,[.ptr i o]=>some (.ptr i (o+off),m)
 | .iaddr sz none,[.sl i o len _,.int _ n]=>if 0≤n∧n < len then some (.ptr i (o+n.toNat * sz),m) else none
 | .iaddr sz (some len),[.ptr i o,.int _ n]=>if 0≤n∧n < len then some (.ptr i (o+n.toNat * sz),m) else none
 | .field off none,[.agg cs]=>match cs[off]? with|some v=>some (v,m)|none=>none
 | .field off (some n),[.agg cs]=>if off+n≤cs.length then some (.agg ((cs.drop off).take n),m) else none
 | .index len sz none,[.agg cs,.int _ n]=>if 0≤n∧n < len then(match cs[n.toNat * sz]? with|some v=>some (v,m)|none=>none) else none
 | .index len sz (some k),[.agg cs,.int _ n]=>if 0≤n∧n < len∧n.toNat * sz+k≤cs.length then some (.agg ((cs.drop (n.toNat * sz)).take k),m) else none
 | .extract i,[.tup vs]=>match vs[i]? with|some v=>some (v,m)|none=>none
 | .call f,vs=>match assoc G f with|some F=>F vs m|none=>none
 | .callv,.fn f first cap :: vs=>match assoc G f with|some F=>F (first++vs++cap) m|none=>none
 | .len,[x]=>match lenA x with|some n=>some (.int .i64 n,m)|none=>none
 | .append sz bytes,[s,x]=>appendA sz bytes s x m
 | .min,.int k n :: vs=>match foldI (fun a b=>if b < a then b else a) k n vs with|some r=>some (.int k r,m)|none=>none
 | .max,.int k n :: vs=>match foldI (fun a b=>if b > a then b else a) k n vs with|some r=>some (.int k r,m)|none=>none
 | .clear sz z,[x]=>match clearA sz z x m with|some m'=>some (.skip,m')|none=>none
 | .cap,[x]=>match capA x with|some n=>some (.int .i64 n,m)|none=>none
 | .lit0,[]=>some (.mt,m)
 | .mkmap,[]=>some (.map m.length,m++[.tab [] 0])
 | .mget ok z,[x,.int .i64 k]=>match tabOf m x with|some l=>some (mgetA ok z (tabGet k l),m)|none=>none
 | .mset,[.map i,.int .i64 k,v]=>match getT m i with|some (l,c)=>some (.skip,m.set i (.tab (tabSet k v c l) (tabTick k l c)))|none=>none
 | .mdel,[.map i,.int .i64 k]=>match getT m i with|some (l,c)=>some (.skip,m.set i (.tab (tabDel k l) c))|none=>none
 | .ment z,[.map i,.int .i64 k]=>match getT m i with
  | some (l,c)=>match tabBorn k l with
   | some (b,v)=>some (.tup [v,.int .i64 b],m)
   | none=>some (.tup [z,.int .i64 c],m.set i (.tab (l++[(k,c,z)]) (c+1)))
  | none=>none
 | .mput,[.map i,.int .i64 b,v]=>match getT m i with
  | some (l,c)=>match tabPut b v l with
   | some l'=>some (.skip,m.set i (.tab l' c))
   | none=>none
  | none=>none
 | .appendz sz bytes z,[.nils,.int .i64 n]=>if 0 < n∧n.toNat * bytes≤35184372088832∧n≤35184372088832 then some (.sl m.length 0 n.toNat none,m++[.cells sz false (repeatL n.toNat z)]) else none
 | .mlen,[x]=>match tabOf m x with|some l=>some (.int .i64 l.length,m)|none=>none
 | _,_=>none
def wantedA(rt:List AV):Option (Nat × Bool)→Option Bool
 | none=>some true
 | some (j,want)=>match rt[j]? with
  | some (.bool b)=>some (b == want)
  | some (.tup [])=>some false
  | _=>none
def putL(env:List AV):Option Nat→AV→List AV
 | some d,v=>env.set d v
 | none,_=>env
def amOps(G:List (Nat × AFun X)):List AOper→List AV→List AV→Mem X→Option (List AV × Mem X)
 | [],env,_,m=>some (env,m)
 | o :: os,env,rt,m =>
  match wantedA rt o.guard with
  | some true=>match amOp G o.op (o.args.map (getS env rt)) m with
   | some (v,m')=>amOps G os (putL env o.dst v) (rt++[v]) m'
   | none=>none
  | some false=>amOps G os (putL env o.dst .skip) (rt++[.skip]) m
  | none=>none
def amOpsT(G:List (Nat × AFun X)):List AOper→List AV→List AV→Mem X→Option (List AV × Mem X × List (Bool × List AV × AV × Mem X))
 | [],env,_,m=>some (env,m,[])
 | o :: os,env,rt,m =>
  match wantedA rt o.guard with
  | some true=>match amOp G o.op (o.args.map (getS env rt)) m with
   | some (v,m')=>match amOpsT G os (putL env o.dst v) (rt++[v]) m' with
    | some (e',m'',tr)=>some (e',m'',(true,o.args.map (getS env rt),v,m) :: tr)
    | none=>none
   | none=>none
  | some false=>match amOpsT G os (putL env o.dst .skip) (rt++[.skip]) m with
   | some (e',m'',tr)=>some (e',m'',(false,o.args.map (getS env rt),.skip,m) :: tr)
   | none=>none
  | none=>none
mutual
def AV.beq:AV→AV→Bool
 | .undef,.undef=>true
 | .bool a,.bool b=>a == b
 | .int k a,.int k' b=>decide (k=k') && decide (a=b)
 | .str a,.str b=>decide (a.data.toList=b.data.toList)
 | .nilp,.nilp=>true
 | .ptr i o,.ptr j q=>decide (i=j) && decide (o=q)
 | .nils,.nils=>true
 | .sl i o n c,.sl j q k d=>decide (i=j) && decide (o=q) && decide (n=k) && decide (c=d)
 | .nilm,.nilm=>true
 | .map i,.map j=>decide (i=j)
 | .nilf,.nilf=>true
 | .fn f a b,.fn g c d=>decide (f=g) && AV.beqL a c && AV.beqL b d
 | .agg a,.agg b=>AV.beqL a b
 | .tup a,.tup b=>AV.beqL a b
 | .mt,.mt=>true
 | .yld i,.yld j=>decide (i=j)
 | _,_=>false
def AV.beqL:List AV→List AV→Bool
 | [],[]=>true
 | a :: as,b :: bs=>AV.beq a b && AV.beqL as bs
 | _,_=>false
end

def memAt(tr:List (Bool × List AV × AV × Mem X)) (m:Mem X) (c:Nat):Mem X :=
 match tr[c]? with
 | some (_,_,_,m')=>m'
 | none=>m
def sameAt(G:List (Nat × AFun X)) (op:AOp) (e:Bool × List AV × AV × Mem X) (m:Mem X):Bool :=
 match op,e with
 | .alloc z,(_,_,.ptr i _,_)=>match getC m i with
  | some (sz,false,l)=>decide (sz=z.length) && AV.beqL l z
  | _=>false
 | op,(true,vs,v,_)=>match amOp G op vs m with
  | some (v',_)=>AV.beq v' v
  | none=>false
 | _,(false,_,_,_)=>true
def stabOk(G:List (Nat × AFun X)) (ops:List AOper) (tr:List (Bool × List AV × AV × Mem X)) (m:Mem X) (stab:List (Nat × List Nat)):Bool :=
 stab.all fun x=>match ops[x.1]?,tr[x.1]? with
  | some o,some e=>x.2.all fun c=>sameAt G o.op e (memAt tr m c)
  | _,_=>false
def iter(f:List AV→Mem X→Option (AX × List AV × Mem X)):Nat→List AV→Mem X→Option (AX × List AV × Mem X)
 | 0,_,_=>none
 | n+1,e,m=>match f e m with
  | some (.normal,e',m')=>iter f n e' m'
  | r=>r
def am(G:List (Nat × AFun X)):AC→List AV→Mem X→Option (AX × List AV × Mem X)
 | .skip,e,m=>some (.normal,e,m)
 | .region ops,e,m=>match amOps G ops e [] m with
  | some (e',m')=>some (.normal,e',m')
  | none=>none
 | .draw _ _ ops stab,e,m=>match amOpsT G ops e [] m with
  | some (e',m',tr)=>if stabOk G ops tr m' stab=true then some (.normal,e',m') else none
  | none=>none
 | .seq a b,e,m=>match am G a e m with
  | some (.normal,e',m')=>am G b e' m'
  | r=>r
 | .cond c t f,e,m=>match getS e [] c with
  | .bool b=>if b=true then am G t e m else am G f e m
  | _=>none
 | .block id b,e,m=>match am G b e m with
  | some (.exit id',e',m')=>if id'=id then some (.normal,e',m') else some (.exit id',e',m')
  | r=>r
 | .loop b,e,m=>iter (am G b) FUEL e m
 | .exit id,e,m=>some (.exit id,e,m)
 | .ret,e,m=>some (.ret,e,m)
 | .scope b,e,m=>am G b e m
 | .goto l,e,m=>some (.goto l,e,m)
 | .scopeg l r b,e,m=>match am G b e m with
  | some (.goto l',e',m')=>if l'=l then(match am G r e' m' with
   | some (.goto _,_,_)=>none
   | x=>x) else none
  | x=>x
def resA(e:List AV) (m:Mem X):ARes→Option AV
 | .loc j=>some (e.getD j .skip)
 | .cell j n=>match e.getD j .skip with
  | .ptr i o=>loadN m i o n
  | _=>none
def resAll(e:List AV) (m:Mem X):List ARes→Option (List AV)
 | []=>some []
 | r :: rs=>match resA e m r,resAll e m rs with
  | some v,some vs=>some (v :: vs)
  | _,_=>none
def tupA:List AV→AV
 | [v]=>v
 | vs=>.tup vs
def amFunc(G:List (Nat × AFun X)) (F:AFn):AFun X:=fun args m =>
 if args.length=F.npar then
  match am G F.body (args++List.replicate (F.nloc - F.npar) .skip) m with
  | some (.normal,e,m')|some (.ret,e,m')=>(match resAll e m' F.res with|some vs=>some (tupA vs,m')|none=>none)
  | _=>none
 else none
end
end Go.Am
end
section
namespace Go.Am
section
variable {X:Type} {G:List (Nat × AFun X)}
def OB(x:Option (AV × Mem X)) (K:AV→Mem X→Prop):Prop:=∃ v m,x=some (v,m)∧K v m
theorem OB_some{v:AV} {m:Mem X} {K:AV→Mem X→Prop}:OB (some (v,m)) K=K v m:=by
 apply propext
 constructor
 ·rintro⟨v',m',h,hk⟩
  simp only[Option.some.injEq,Prod.mk.injEq] at h
  obtain⟨rfl,rfl⟩:=h
  exact hk
 ·intro h;exact⟨v,m,rfl,h⟩
theorem OB_none{K:AV→Mem X→Prop}:OB none K=False:=by simp[OB]
def WG(x:Option Bool) (K1 K2:Prop):Prop:=(x=some true∧K1)∨(x=some false∧K2)
theorem WG_none{j:List AV} {K1 K2:Prop}:WG (wantedA j none) K1 K2=K1:=by simp[WG,wantedA]
def WO(G:List (Nat × AFun X)):List AOper→(List AV→Mem X→Prop)→List AV→List AV→Mem X→Prop
 | [],Q,e,_,m=>Q e m
 | o :: os,Q,e,rt,m=>WG (wantedA rt o.guard) (OB (amOp G o.op (o.args.map (getS e rt)) m) fun v m'=>WO G os Q (putL e o.dst v) (rt++[v]) m')
   (WO G os Q (putL e o.dst .skip) (rt++[.skip]) m)
theorem WO_out:∀ {ops:List AOper} {Q:List AV→Mem X→Prop} {e rt:List AV} {m:Mem X},WO G ops Q e rt m→∃ e' m',amOps G ops e rt m=some (e',m')∧Q e' m'
 | [],Q,e,rt,m,h=>⟨e,m,rfl,h⟩
 | o :: os,Q,e,rt,m,h=>by
  unfold WO at h
  rcases h with⟨h1,v,m',h2,h3⟩|⟨h1,h3⟩
  ·obtain⟨e',m'',h4,h5⟩:=WO_out h3
   exact⟨e',m'',by simp only[amOps,h1,h2,h4],h5⟩
  ·obtain⟨e',m'',h4,h5⟩:=WO_out h3
   exact⟨e',m'',by simp only[amOps,h1,h4],h5⟩
def WT(G:List (Nat × AFun X)) (fin:List (Bool × List AV × AV × Mem X)→Mem X→Bool):List AOper→(List AV→Mem X→Prop)→List AV→List AV→Mem X→List (Bool × List AV × AV × Mem X)→Prop
 | [],Q,e,_,m,tr=>fin tr m=true∧Q e m
 | o :: os,Q,e,rt,m,tr=>WG (wantedA rt o.guard) (OB (amOp G o.op (o.args.map (getS e rt)) m) fun v m'=>WT G fin os Q (putL e o.dst v) (rt++[v]) m' (tr++[(true,o.args.map (getS e rt),v,m)]))
   (WT G fin os Q (putL e o.dst .skip) (rt++[.skip]) m (tr++[(false,o.args.map (getS e rt),.skip,m)]))
theorem WT_out{fin:List (Bool × List AV × AV × Mem X)→Mem X→Bool}:∀ {ops:List AOper} {Q:List AV→Mem X→Prop} {e rt:List AV} {m:Mem X} {tr:List (Bool × List AV × AV × Mem X)},WT G fin ops Q e rt m tr →
  ∃ e' m' tr',amOpsT G ops e rt m=some (e',m',tr')∧fin (tr++tr') m'=true∧Q e' m'
 | [],Q,e,rt,m,tr,h=>⟨e,m,[],rfl,by simpa using h.1,h.2⟩
 | o :: os,Q,e,rt,m,tr,h=>by
  unfold WT at h
  rcases h with⟨h1,v,m',h2,h3⟩|⟨h1,h3⟩
  ·obtain⟨e',m'',tr',h4,h5,h6⟩:=WT_out h3
   exact⟨e',m'',(true,o.args.map (getS e rt),v,m) :: tr',by simp only[amOpsT,h1,h2,h4],by simpa using h5,h6⟩
  ·obtain⟨e',m'',tr',h4,h5,h6⟩:=WT_out h3
   exact⟨e',m'',(false,o.args.map (getS e rt),.skip,m) :: tr',by simp only[amOpsT,h1,h4],by simpa using h5,h6⟩
def W(G:List (Nat × AFun X)) (c:AC) (Q:AX→List AV→Mem X→Prop) (e:List AV) (m:Mem X):Prop:=∃ x e' m',am G c e m=some (x,e',m')∧Q x e' m'
variable {Q:AX→List AV→Mem X→Prop} {e:List AV} {m:Mem X}
theorem W_skip:W G .skip Q e m=Q .normal e m:=by
 apply propext
 constructor
 ·rintro⟨x,e',m',h,hk⟩
  simp only[am,Option.some.injEq,Prod.mk.injEq] at h
  obtain⟨rfl,rfl,rfl⟩:=h
  exact hk
 ·intro h;exact⟨_,_,_,rfl,h⟩
theorem W_exit{id:Nat}:W G (.exit id) Q e m=Q (.exit id) e m:=by
 apply propext
 constructor
 ·rintro⟨x,e',m',h,hk⟩
  simp only[am,Option.some.injEq,Prod.mk.injEq] at h
  obtain⟨rfl,rfl,rfl⟩:=h
  exact hk
 ·intro h;exact⟨_,_,_,rfl,h⟩
theorem W_ret:W G .ret Q e m=Q .ret e m:=by
 apply propext
 constructor
 ·rintro⟨x,e',m',h,hk⟩
  simp only[am,Option.some.injEq,Prod.mk.injEq] at h
  obtain⟨rfl,rfl,rfl⟩:=h
  exact hk
 ·intro h;exact⟨_,_,_,rfl,h⟩
theorem W_goto{l:Nat}:W G (.goto l) Q e m=Q (.goto l) e m:=by
 apply propext
 constructor
 ·rintro⟨x,e',m',h,hk⟩
  simp only[am,Option.some.injEq,Prod.mk.injEq] at h
  obtain⟨rfl,rfl,rfl⟩:=h
  exact hk
 ·intro h;exact⟨_,_,_,rfl,h⟩
def jumpQ(l:Nat) (K:List AV→Mem X→Prop) (Q:AX→List AV→Mem X→Prop):AX→List AV→Mem X→Prop
 | .goto l',e,m=>l'=l∧K e m
 | x,e,m=>Q x e m
def noG(Q:AX→List AV→Mem X→Prop):AX→List AV→Mem X→Prop
 | .goto _,_,_=>False
 | x,e,m=>Q x e m
theorem jumpQ_normal{l:Nat} {K:List AV→Mem X→Prop}:jumpQ l K Q .normal e m=Q .normal e m:=rfl
theorem jumpQ_ret{l:Nat} {K:List AV→Mem X→Prop}:jumpQ l K Q .ret e m=Q .ret e m:=rfl
theorem jumpQ_exit{l id:Nat} {K:List AV→Mem X→Prop}:jumpQ l K Q (.exit id) e m=Q (.exit id) e m:=rfl
theorem jumpQ_goto{l:Nat} {K:List AV→Mem X→Prop}:jumpQ l K Q (.goto l) e m=K e m:=by simp[jumpQ]
theorem noG_normal:noG Q .normal e m=Q .normal e m:=rfl
theorem noG_ret:noG Q .ret e m=Q .ret e m:=rfl
theorem noG_exit{id:Nat}:noG Q (.exit id) e m=Q (.exit id) e m:=rfl
theorem W_scopeg{l:Nat} {r b:AC}:W G (.scopeg l r b) Q e m=W G b (jumpQ l (W G r (noG Q)) Q) e m:=by
 apply propext
 constructor
 ·rintro⟨x,e',m',h,hk⟩
  simp only[am] at h
  split at h
  ·rename_i l' e1 m1 h1
   split at h
   ·rename_i hll
    subst hll
    split at h
    ·cases h
    ·rename_i hne
     refine⟨_,_,_,h1,rfl,x,e',m',h,?_⟩
     cases x with
     | goto l2=>exact absurd h (hne _ _ _)
     | normal=>exact hk
     | exit id=>exact hk
     | ret=>exact hk
   ·cases h
  ·rename_i hne
   refine⟨x,e',m',h,?_⟩
   cases x with
   | goto l2=>exact absurd h (hne _ _ _)
   | normal=>exact hk
   | exit id=>exact hk
   | ret=>exact hk
 ·rintro⟨x,e',m',h,hk⟩
  cases x with
  | goto l2 =>
   obtain⟨rfl,y,e2,m2,h2,hk2⟩:=hk
   cases y with
   | goto l3=>cases hk2
   | normal=>exact⟨_,e2,m2,by simp only[am,h,h2,if_true],hk2⟩
   | exit id=>exact⟨_,e2,m2,by simp only[am,h,h2,if_true],hk2⟩
   | ret=>exact⟨_,e2,m2,by simp only[am,h,h2,if_true],hk2⟩
  | normal=>exact⟨_,_,_,by simp only[am,h],hk⟩
  | exit id=>exact⟨_,_,_,by simp only[am,h],hk⟩
  | ret=>exact⟨_,_,_,by simp only[am,h],hk⟩
theorem W_region{ops:List AOper} (h:WO G ops (Q .normal) e [] m):W G (.region ops) Q e m:=by
 obtain⟨e',m',h1,h2⟩:=WO_out h
 exact⟨_,_,_,by simp only[am,h1],h2⟩
theorem W_draw{p:List Nat} {k:Nat} {ops:List AOper} {stab:List (Nat × List Nat)} (h:WT G (fun tr m=>stabOk G ops tr m stab) ops (Q .normal) e [] m []):W G (.draw p k ops stab) Q e m:=by
 obtain⟨e',m',tr,h1,h2,h3⟩:=WT_out h
 exact⟨_,_,_,by simp only[am,h1];rw[if_pos (by simpa using h2)],h3⟩
def thenQ(Q:AX→List AV→Mem X→Prop) (K:List AV→Mem X→Prop):AX→List AV→Mem X→Prop
 | .normal,e,m=>K e m
 | x,e,m=>Q x e m
theorem thenQ_normal{K:List AV→Mem X→Prop}:thenQ Q K .normal e m=K e m:=rfl
theorem thenQ_exit{K:List AV→Mem X→Prop} {id:Nat}:thenQ Q K (.exit id) e m=Q (.exit id) e m:=rfl
theorem thenQ_goto{K:List AV→Mem X→Prop} {l:Nat}:thenQ Q K (.goto l) e m=Q (.goto l) e m:=rfl
theorem thenQ_ret{K:List AV→Mem X→Prop}:thenQ Q K .ret e m=Q .ret e m:=rfl
theorem W_seq{a b:AC} (h:W G a (thenQ Q (fun e m=>W G b Q e m)) e m):W G (.seq a b) Q e m:=by
 obtain⟨x,e',m',h1,h2⟩:=h
 cases x with
 | normal =>
  obtain⟨y,e2,m2,h3,h4⟩:=h2
  exact⟨y,e2,m2,by simp only[am,h1,h3],h4⟩
 | exit id=>exact⟨_,_,_,by simp only[am,h1],h2⟩
 | ret=>exact⟨_,_,_,by simp only[am,h1],h2⟩
 | goto l=>exact⟨_,_,_,by simp only[am,h1],h2⟩
theorem W_cond{c:Src} {t f:AC} {b:Bool} (hc:getS e [] c = .bool b) (h:if b=true then W G t Q e m else W G f Q e m):W G (.cond c t f) Q e m:=by
 cases b with
 | true=>obtain⟨x,e',m',h1,h2⟩:=h;exact⟨x,e',m',by simp only[am,hc,h1,if_true],h2⟩
 | false=>obtain⟨x,e',m',h1,h2⟩:=h;exact⟨x,e',m',by simp only[am,hc,h1];rfl,h2⟩
def blockQ(id:Nat) (Q:AX→List AV→Mem X→Prop):AX→List AV→Mem X→Prop
 | .exit id',e,m=>if id'=id then Q .normal e m else Q (.exit id') e m
 | x,e,m=>Q x e m
theorem blockQ_normal{id:Nat}:blockQ id Q .normal e m=Q .normal e m:=rfl
theorem blockQ_goto{id l:Nat}:blockQ id Q (.goto l) e m=Q (.goto l) e m:=rfl
theorem blockQ_ret{id:Nat}:blockQ id Q .ret e m=Q .ret e m:=rfl
theorem blockQ_exit{id id':Nat}:blockQ id Q (.exit id') e m=if id'=id then Q .normal e m else Q (.exit id') e m:=rfl
theorem W_block{id:Nat} {b:AC} (h:W G b (blockQ id Q) e m):W G (.block id b) Q e m:=by
 obtain⟨x,e',m',h1,h2⟩:=h
 cases x with
 | normal=>exact⟨_,_,_,by simp only[am,h1],h2⟩
 | exit id' =>
  simp only[blockQ] at h2
  by_cases hi:id'=id
  ·rw[if_pos hi] at h2;exact⟨_,_,_,by simp only[am,h1];rw[if_pos hi],h2⟩
  ·rw[if_neg hi] at h2;exact⟨_,_,_,by simp only[am,h1];rw[if_neg hi],h2⟩
 | ret=>exact⟨_,_,_,by simp only[am,h1],h2⟩
 | goto l=>exact⟨_,_,_,by simp only[am,h1],h2⟩
theorem W_mono{c:AC} {Q':AX→List AV→Mem X→Prop} (h:W G c Q' e m) (hq:∀ x e' m',Q' x e' m'→Q x e' m'):W G c Q e m:=by
 obtain⟨x,e',m',h1,h2⟩:=h
 exact⟨x,e',m',h1,hq _ _ _ h2⟩
theorem W_loop{b:AC} (I:Nat→List AV→Mem X→Prop) (n:Nat) (hn:n < FUEL) (h0:I n e m)
  (hs:∀ n e m,I n e m→W G b (thenQ Q (fun e' m'=>∃ k,k < n∧I k e' m')) e m):W G (.loop b) Q e m:=by
 have key:∀ (N n:Nat) (e:List AV) (m:Mem X),n < N→I n e m→∃ x e' m',iter (am G b) N e m=some (x,e',m')∧Q x e' m':=by
  intro N
  induction N with
  | zero=>intro n e m h;omega
  | succ N ih =>
   intro n e m hlt hI
   obtain⟨x,e1,m1,h1,h2⟩:=hs n e m hI
   cases x with
   | normal =>
    obtain⟨k,hk,hI'⟩:=h2
    obtain⟨x,e2,m2,h3,h4⟩:=ih k e1 m1 (by omega) hI'
    exact⟨x,e2,m2,by simp only[iter,h1,h3],h4⟩
   | exit id=>exact⟨_,_,_,by simp only[iter,h1],h2⟩
   | ret=>exact⟨_,_,_,by simp only[iter,h1],h2⟩
   | goto l=>exact⟨_,_,_,by simp only[iter,h1],h2⟩
 exact key FUEL n e m hn h0
def Fn(G:List (Nat × AFun X)) (F:AFn) (args:List AV) (m:Mem X) (Q:AV→Mem X→Prop):Prop:=OB (amFunc G F args m) Q
def resQ(res:List ARes) (Q:AV→Mem X→Prop):AX→List AV→Mem X→Prop
 | .exit _,_,_=>False
 | .goto _,_,_=>False
 | _,e,m=>∃ vs,resAll e m res=some vs∧Q (tupA vs) m
theorem Fn_of{F:AFn} {args:List AV} {Q:AV→Mem X→Prop} (hl:args.length=F.npar) (h:W G F.body (resQ F.res Q) (args++List.replicate (F.nloc - F.npar) .skip) m):Fn G F args m Q:=by
 obtain⟨x,e',m',h1,h2⟩:=h
 cases x with
 | exit id=>cases h2
 | goto l=>cases h2
 | normal =>
  obtain⟨vs,h3,h4⟩:=h2
  exact⟨_,_,by simp only[amFunc,h1,h3];rw[if_pos hl],h4⟩
 | ret =>
  obtain⟨vs,h3,h4⟩:=h2
  exact⟨_,_,by simp only[amFunc,h1,h3];rw[if_pos hl],h4⟩
end
end Go.Am
end
section
namespace Go.Am
section
variable {X:Type}
def OK(G:List (Nat × AFun X)) (os:List AOper) (Q:List AV→Mem X→Prop) (e:List AV) (dst:Option Nat) (rt:List AV) (x:Option (AV × Mem X)):Prop:=OB x fun v m=>WO G os Q (putL e dst v) (rt++[v]) m
def GK(G:List (Nat × AFun X)) (op:AOp) (args:List Src) (os:List AOper) (Q:List AV→Mem X→Prop) (e:List AV) (dst:Option Nat) (rt:List AV) (m:Mem X) (g:Option Bool):Prop :=
 WG g (OK G os Q e dst rt (amOp G op (args.map (getS e rt)) m)) (WO G os Q (putL e dst .skip) (rt++[.skip]) m)
def WI(b:Bool) (K L:Prop):Prop:=if b=true then K else L
theorem WI_true{K L:Prop}:WI true K L=K:=by simp[WI]
theorem WI_false{K L:Prop}:WI false K L=L:=by simp[WI]
theorem WI_of{b:Bool} {K L:Prop} (h1:b=true→K) (h2:b=false→L):WI b K L:=by
 cases b with
 | true=>simpa [WI] using h1 rfl
 | false=>simpa [WI] using h2 rfl
theorem WG_bool{b:Bool} {K L:Prop}:WG (some b) K L=WI b K L:=by cases b<;>simp[WG,WI]
theorem evB(k:IntKind) (a b:Int) :
  (binI .add k a b=some (.int k (k.wrap (a+b)))) ∧
  (binI .sub k a b=some (.int k (k.wrap (a - b)))) ∧
  (binI .mul k a b=some (.int k (k.wrap (a * b)))) ∧
  (binI .quo k a b=if b=0 then none else some (.int k (k.wrap (a.tdiv b)))) ∧
  (binI .rem k a b=if b=0 then none else some (.int k (a.tmod b))) ∧
  (binI .eql k a b=some (.bool (decide (a=b)))) ∧
  (binI .neq k a b=some (.bool (decide (a≠b)))) ∧
  (binI .lss k a b=some (.bool (decide (a < b)))) ∧
  (binI .leq k a b=some (.bool (decide (a≤b)))) ∧
  (binI .gtr k a b=some (.bool (decide (b < a)))) ∧
  (binI .geq k a b=some (.bool (decide (b≤a)))):=by
 refine⟨rfl,rfl,rfl,rfl,rfl,?_,?_,rfl,rfl,rfl,rfl⟩
 ·simp only[binI];congr 2
 ·simp only[binI];congr 2;by_cases h:a=b<;>simp[h]
theorem evS :
  (∀ e rt j,getS e rt (.loc j)=e.getD j .skip) ∧
  (∀ e rt j,getS e rt (.tmp j)=rt.getD j .skip) ∧
  (∀ e rt v,getS e rt (.c v)=v) ∧
  (∀ e v,putL e none v=e) ∧
  (∀ e j v,putL e (some j) v=e.set j v) ∧
  (∀ rt j,wantedA rt (some (j,true))=match rt[j]? with|some (.bool b)=>some b|some (.tup [])=>some false|_=>none) ∧
  (∀ rt j,wantedA rt (some (j,false))=match rt[j]? with|some (.bool b)=>some (!b)|some (.tup [])=>some false|_=>none):=by
 refine⟨fun _ _ _=>rfl,fun _ _ _=>rfl,fun _ _ _=>rfl,fun _ _=>rfl,fun _ _ _=>rfl,fun rt j=>?_,fun rt j=>?_⟩
 ·simp only[wantedA];split<;>simp_all
 ·simp only[wantedA];split<;>simp_all
theorem evL{α:Type} :
  (∀ (x d:α) xs,(x :: xs).getD 0 d=x) ∧
  (∀ (x d:α) xs n,(x :: xs).getD (n+1) d=xs.getD n d) ∧
  (∀ (x:α) xs,(x :: xs)[0]?=some x) ∧
  (∀ (x:α) xs n,(x :: xs)[n+1]?=xs[n]?) ∧
  (∀ (x y:α) xs,(x :: xs).set 0 y=y :: xs) ∧
  (∀ (x y:α) xs n,(x :: xs).set (n+1) y=x :: xs.set n y) ∧
  (∀ (x:α) xs ys,x :: xs++ys=x :: (xs++ys)) ∧
  (∀ (xs:List α),[]++xs=xs) ∧
  (∀ (x:α) xs n,(x :: xs).take (n+1)=x :: xs.take n) ∧
  (∀ (xs:List α),xs.take 0=[]) ∧
  (∀ (x:α) xs n,(x :: xs).drop (n+1)=xs.drop n) ∧
  (∀ (xs:List α),xs.drop 0=xs) ∧
  (∀ (x:α) xs,(x :: xs).length=xs.length+1) ∧
  (([]:List α).length=0):=by
 refine⟨fun _ _ _=>rfl,fun _ _ _ _=>rfl,fun _ _=>rfl,fun _ _ _=>rfl,fun _ _ _=>rfl,fun _ _ _ _=>rfl,fun _ _ _=>rfl,fun _=>rfl,fun _ _ _=>rfl,fun _=>rfl,fun _ _ _=>rfl,fun _=>rfl,fun _ _=>rfl,rfl⟩
theorem WO_eq{G:List (Nat × AFun X)}:∀ {ops:List AOper} {Q:List AV→Mem X→Prop} {e rt:List AV} {m:Mem X},WO G ops Q e rt m=∃ e' m',amOps G ops e rt m=some (e',m')∧Q e' m':=by
 intro ops
 induction ops with
 | nil =>
  intro Q e rt m
  refine propext ⟨WO_out,?_⟩
  rintro⟨e',m',h,hq⟩
  simp only[amOps,Option.some.injEq,Prod.mk.injEq] at h
  obtain⟨rfl,rfl⟩:=h
  exact hq
 | cons o os ih =>
  intro Q e rt m
  refine propext ⟨WO_out,?_⟩
  rintro⟨e',m',h,hq⟩
  simp only[amOps] at h
  split at h
  ·rename_i hw
   split at h
   ·rename_i v m1 h1
    refine .inl ⟨hw,v,m1,h1,?_⟩
    show WO G os Q (putL e o.dst v) (rt++[v]) m1
    rw[ih];exact⟨e',m',h,hq⟩
   ·cases h
  ·rename_i hw
   refine .inr ⟨hw,?_⟩
   rw[ih];exact⟨e',m',h,hq⟩
  ·cases h
def CW(G:List (Nat × AFun X)) (t f:AC) (Q:AX→List AV→Mem X→Prop) (e:List AV) (m:Mem X) (v:AV):Prop:=∃ b,v = .bool b∧WI b (W G t Q e m) (W G f Q e m)
theorem CW_bool{G:List (Nat × AFun X)} {t f:AC} {Q:AX→List AV→Mem X→Prop} {e:List AV} {m:Mem X} {b:Bool}:CW G t f Q e m (.bool b)=WI b (W G t Q e m) (W G f Q e m):=by simp[CW]
def RQ(Q:AV→Mem X→Prop) (m:Mem X) (x:Option (List AV)):Prop:=∃ vs,x=some vs∧Q (tupA vs) m
theorem RQ_some{Q:AV→Mem X→Prop} {m:Mem X} {vs:List AV}:RQ Q m (some vs)=Q (tupA vs) m:=by simp[RQ]
theorem evW(G:List (Nat × AFun X)) :
  (∀ ops Q e m,W G (.region ops) Q e m=WO G ops (Q .normal) e ([]++[]) m) ∧
  (∀ a b Q e m,W G (.seq a b) Q e m=W G a (thenQ Q (W G b Q)) e m) ∧
  (∀ c t f Q e m,W G (.cond c t f) Q e m=CW G t f Q e m (getS e [] c)) ∧
  (∀ id b Q e m,W G (.block id b) Q e m=W G b (blockQ id Q) e m) ∧
  (∀ Q e m,W G .skip Q e m=Q .normal e m) ∧
  (∀ id Q e m,W G (.exit id) Q e m=Q (.exit id) e m) ∧
  (∀ Q e m,W G .ret Q e m=Q .ret e m):=by
 refine⟨fun ops Q e m=>?_,fun a b Q e m=>?_,fun c t f Q e m=>?_,fun id b Q e m=>?_,fun _ _ _=>W_skip,fun _ _ _ _=>W_exit,fun _ _ _=>W_ret⟩
 ·refine propext ⟨?_,W_region⟩
  rintro⟨x,e',m',h,hq⟩
  simp only[am] at h
  split at h
  ·rename_i e1 m1 h1
   simp only[Option.some.injEq,Prod.mk.injEq] at h
   obtain⟨rfl,rfl,rfl⟩:=h
   rw[WO_eq];exact⟨_,_,h1,hq⟩
  ·cases h
 ·refine propext ⟨?_,W_seq⟩
  rintro⟨x,e',m',h,hq⟩
  simp only[am] at h
  split at h
  ·rename_i e1 m1 h1
   exact⟨_,_,_,h1,⟨x,e',m',h,hq⟩⟩
  ·rename_i hne
   refine⟨_,_,_,h,?_⟩
   cases x with
   | normal=>exact absurd h (hne e' m')
   | exit id=>exact hq
   | ret=>exact hq
   | goto l=>exact hq
 ·refine propext ⟨?_,?_⟩
  ·rintro⟨x,e',m',h,hq⟩
   simp only[am] at h
   split at h
   ·rename_i b hb
    refine⟨b,hb,?_⟩
    cases b with
    | true=>simp only[if_true] at h;rw[WI_true];exact⟨x,e',m',h,hq⟩
    | false=>rw[WI_false];exact⟨x,e',m',h,hq⟩
   ·cases h
  ·rintro⟨b,hb,hw⟩
   exact W_cond hb hw
 ·refine propext ⟨?_,W_block⟩
  rintro⟨x,e',m',h,hq⟩
  simp only[am] at h
  split at h
  ·rename_i id' e1 m1 h1
   refine⟨_,_,_,h1,?_⟩
   simp only[blockQ]
   split at h
   ·rename_i hi
    simp only[Option.some.injEq,Prod.mk.injEq] at h
    obtain⟨rfl,rfl,rfl⟩:=h
    rw[if_pos hi];exact hq
   ·rename_i hi
    simp only[Option.some.injEq,Prod.mk.injEq] at h
    obtain⟨rfl,rfl,rfl⟩:=h
    rw[if_neg hi];exact hq
  ·rename_i hne
   refine⟨_,_,_,h,?_⟩
   cases x with
   | normal=>exact hq
   | exit id=>exact absurd h (hne id e' m')
   | ret=>exact hq
   | goto l=>exact hq
theorem evQ:(∀ res Q e (m:Mem X),resQ res Q .normal e m=RQ Q m (resAll e m res)) ∧
  (∀ res Q e (m:Mem X),resQ res Q .ret e m=RQ Q m (resAll e m res)):=⟨fun _ _ _ _=>rfl,fun _ _ _ _=>rfl⟩
theorem cond_bool{b x y:Bool}:cond b (AV.bool x) (AV.bool y)=AV.bool (cond b x y):=by cases b<;>rfl
theorem cond_int{b:Bool} {k:IntKind} {x y:Int}:cond b (AV.int k x) (AV.int k y)=AV.int k (cond b x y):=by cases b<;>rfl
theorem tupA_one{v:AV}:tupA [v]=v:=rfl
theorem tupA_two{v u:AV} {vs:List AV}:tupA (v :: u :: vs) = .tup (v :: u :: vs):=rfl
theorem tupA_nil:tupA [] = .tup []:=rfl
end
end Go.Am
end
