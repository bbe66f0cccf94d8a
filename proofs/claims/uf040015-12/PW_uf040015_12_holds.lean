import PyProof.Rows.All
import PyProof.Rows.Many
import PyProof.Cells
import PyProof.StrLoop
import PyProof.TupleIter
import PyProof.RangeIter
import PyProof.SliceList
import PyProof.SliceStr2
import PyProof.ListIndex
import PyProof.ListIndexNeg
import PyProof.AutoIntOps
import PyProof.TupleOps
import PyProof.Rows.Nodes
import PyProof.Rows.TupSub
import PyProof.Rows.StrTemp
import PyProof.Rows.StrSub
import PyProof.Rows.StrRules
import PyProof.Rules3
import PyProof.DictStraight
import PyProof.Rows.DictRows
import PyProof.Rows.PlainObj
import PyProof.AutoIntOpsIf
import PyProof.ToksMono
import PyProof.WalkInts
import PyProof.Rows.MinMaxN
import PyProof.CallStr
import KE.KIntText
import PyProof.ZipIter
import PyProof.CollectWalk
import PyProof.InstLoad
import PyProof.ObjNew
import PyProof.InstStoreFacts
import PyProof.AssignAttr
import PyProof.DefCall
import PyProof.Rows.PlainNoArg
import PyProof.Rows.Catch
import PyProof.Defs
import PyProof.ExcBaseAll.ValueError
import PyProof.ExcClass2
import PyProof.RulesTry
import PyProof.RulesAs
import KE.KIsAll
import PyProof.ExcArgsOwn
import OpenK.KLine
import OpenK.KOwn
import PyProof.Rows.PlainEq
import PySem.Challenge.RW_uf040015_12
set_option genSizeOf false
set_option genSizeOfSpec false
set_option bootstrap.genMatcherCode false
set_option linter.unusedVariables false
local macro_rules | `(tactic| omega) => `(tactic| lia)
namespace Mine
noncomputable abbrev JX:=Nat.Internal.Linear.Expr
noncomputable abbrev UX:=Int.Internal.Linear.Expr
noncomputable abbrev jA:JX->JX->JX:=.add
noncomputable abbrev jK:Nat->JX:=.num
noncomputable abbrev jM:Nat->JX->JX:=.mulL
noncomputable abbrev jR:JX->Nat->JX:=.mulR
noncomputable abbrev uA:UX->UX->UX:=.add
noncomputable abbrev uS:UX->UX->UX:=.sub
noncomputable abbrev uN:UX->UX:=.neg
noncomputable abbrev uK:Int->UX:=.num
noncomputable abbrev uM:Int->UX->UX:=.mulL
noncomputable abbrev uR:UX->Int->UX:=.mulR
noncomputable abbrev j0:JX:=.var 0
noncomputable abbrev u0:UX:=.var 0
noncomputable abbrev j1:JX:=.var 1
noncomputable abbrev u1:UX:=.var 1
noncomputable abbrev j2:JX:=.var 2
noncomputable abbrev u2:UX:=.var 2
noncomputable abbrev j3:JX:=.var 3
noncomputable abbrev u3:UX:=.var 3
noncomputable abbrev j4:JX:=.var 4
noncomputable abbrev u4:UX:=.var 4
noncomputable abbrev j5:JX:=.var 5
noncomputable abbrev u5:UX:=.var 5
noncomputable abbrev j6:JX:=.var 6
noncomputable abbrev u6:UX:=.var 6
noncomputable abbrev j7:JX:=.var 7
noncomputable abbrev u7:UX:=.var 7
noncomputable abbrev jc1 (a0:Nat):Nat.Internal.Linear.Context:=.leaf a0
noncomputable abbrev uc1 (a0:Int):Int.Internal.Linear.Context:=.leaf a0
noncomputable abbrev jc2 (a0 a1:Nat):Nat.Internal.Linear.Context:=.branch 1 (.leaf a0) (.leaf a1)
noncomputable abbrev uc2 (a0 a1:Int):Int.Internal.Linear.Context:=.branch 1 (.leaf a0) (.leaf a1)
noncomputable abbrev jc3 (a0 a1 a2:Nat):Nat.Internal.Linear.Context:=.branch 1 (.leaf a0) (.branch 2 (.leaf a1) (.leaf a2))
noncomputable abbrev uc3 (a0 a1 a2:Int):Int.Internal.Linear.Context:=.branch 1 (.leaf a0) (.branch 2 (.leaf a1) (.leaf a2))
noncomputable abbrev jc4 (a0 a1 a2 a3:Nat):Nat.Internal.Linear.Context:=.branch 2 (.branch 1 (.leaf a0) (.leaf a1)) (.branch 3 (.leaf a2) (.leaf a3))
noncomputable abbrev uc4 (a0 a1 a2 a3:Int):Int.Internal.Linear.Context:=.branch 2 (.branch 1 (.leaf a0) (.leaf a1)) (.branch 3 (.leaf a2) (.leaf a3))
noncomputable abbrev jc5 (a0 a1 a2 a3 a4:Nat):Nat.Internal.Linear.Context:=.branch 2 (.branch 1 (.leaf a0) (.leaf a1)) (.branch 3 (.leaf a2) (.branch 4 (.leaf a3) (.leaf a4)))
noncomputable abbrev uc5 (a0 a1 a2 a3 a4:Int):Int.Internal.Linear.Context:=.branch 2 (.branch 1 (.leaf a0) (.leaf a1)) (.branch 3 (.leaf a2) (.branch 4 (.leaf a3) (.leaf a4)))
noncomputable abbrev jc6 (a0 a1 a2 a3 a4 a5:Nat):Nat.Internal.Linear.Context:=.branch 3 (.branch 1 (.leaf a0) (.branch 2 (.leaf a1) (.leaf a2))) (.branch 4 (.leaf a3) (.branch 5 (.leaf a4) (.leaf a5)))
noncomputable abbrev uc6 (a0 a1 a2 a3 a4 a5:Int):Int.Internal.Linear.Context:=.branch 3 (.branch 1 (.leaf a0) (.branch 2 (.leaf a1) (.leaf a2))) (.branch 4 (.leaf a3) (.branch 5 (.leaf a4) (.leaf a5)))
noncomputable abbrev jc7 (a0 a1 a2 a3 a4 a5 a6:Nat):Nat.Internal.Linear.Context:=.branch 3 (.branch 1 (.leaf a0) (.branch 2 (.leaf a1) (.leaf a2))) (.branch 5 (.branch 4 (.leaf a3) (.leaf a4)) (.branch 6 (.leaf a5) (.leaf a6)))
noncomputable abbrev uc7 (a0 a1 a2 a3 a4 a5 a6:Int):Int.Internal.Linear.Context:=.branch 3 (.branch 1 (.leaf a0) (.branch 2 (.leaf a1) (.leaf a2))) (.branch 5 (.branch 4 (.leaf a3) (.leaf a4)) (.branch 6 (.leaf a5) (.leaf a6)))
noncomputable abbrev jc8 (a0 a1 a2 a3 a4 a5 a6 a7:Nat):Nat.Internal.Linear.Context:=.branch 4 (.branch 2 (.branch 1 (.leaf a0) (.leaf a1)) (.branch 3 (.leaf a2) (.leaf a3))) (.branch 6 (.branch 5 (.leaf a4) (.leaf a5)) (.branch 7 (.leaf a6) (.leaf a7)))
noncomputable abbrev uc8 (a0 a1 a2 a3 a4 a5 a6 a7:Int):Int.Internal.Linear.Context:=.branch 4 (.branch 2 (.branch 1 (.leaf a0) (.leaf a1)) (.branch 3 (.leaf a2) (.leaf a3))) (.branch 6 (.branch 5 (.leaf a4) (.leaf a5)) (.branch 7 (.leaf a6) (.leaf a7)))
theorem jl0 (c:Nat.Internal.Linear.Context) (L R:JX) (v:(Nat.Internal.Linear.ExprCnstr.toNormPoly ⟨false,L,R⟩).isValid=true):L.denote c<=R.denote c:=of_eq_true (Nat.Internal.Linear.ExprCnstr.eq_true_of_isValid c ⟨false,L,R⟩ v)
theorem jl1 (c:Nat.Internal.Linear.Context) (l r L R:JX) (v:(Nat.Internal.Linear.ExprCnstr.toNormPoly ⟨false,.add L r,.add R l⟩).isValid=true) (h:l.denote c<=r.denote c):L.denote c<=R.denote c:=
 Nat.le_of_add_le_add_right (Nat.le_trans (jl0 c (.add L r) (.add R l) v) (Nat.add_le_add_left h _))
theorem jl2 (c:Nat.Internal.Linear.Context) (l r l' r' L R:JX) (v:(Nat.Internal.Linear.ExprCnstr.toNormPoly ⟨false,.add L (.add r r'),.add R (.add l l')⟩).isValid=true) (h:l.denote c<=r.denote c) (h':l'.denote c<=r'.denote c):L.denote c<=R.denote c:=
 jl1 c (.add l l') (.add r r') L R v (Nat.add_le_add h h')
theorem jl3 (c:Nat.Internal.Linear.Context) (l r l' r' m s L R:JX) (v:(Nat.Internal.Linear.ExprCnstr.toNormPoly ⟨false,.add L (.add r (.add r' s)),.add R (.add l (.add l' m))⟩).isValid=true) (h:l.denote c<=r.denote c) (h':l'.denote c<=r'.denote c) (k:m.denote c<=s.denote c):L.denote c<=R.denote c:=
 jl1 c (.add l (.add l' m)) (.add r (.add r' s)) L R v (Nat.add_le_add h (Nat.add_le_add h' k))
theorem jm (c:Nat.Internal.Linear.Context) (k:Nat) (l r:JX) (h:l.denote c<=r.denote c):Nat.Internal.Linear.Expr.denote c (.mulL k l)<=Nat.Internal.Linear.Expr.denote c (.mulL k r):=Nat.mul_le_mul_left k h
theorem ul0 (c:Int.Internal.Linear.Context) (L R:UX) (v:(Int.Internal.Linear.Expr.sub L R).norm.isValidLe=true):L.denote c<=R.denote c:=of_eq_true (Int.Internal.Linear.le_eq_true c L R v)
theorem ul1 (c:Int.Internal.Linear.Context) (l r L R:UX) (v:(Int.Internal.Linear.Expr.sub (.add L r) (.add R l)).norm.isValidLe=true) (h:l.denote c<=r.denote c):L.denote c<=R.denote c:=
 Int.le_of_add_le_add_right (Int.le_trans (ul0 c (.add L r) (.add R l) v) (Int.add_le_add_left h _))
theorem ul2 (c:Int.Internal.Linear.Context) (l r l' r' L R:UX) (v:(Int.Internal.Linear.Expr.sub (.add L (.add r r')) (.add R (.add l l'))).norm.isValidLe=true) (h:l.denote c<=r.denote c) (h':l'.denote c<=r'.denote c):L.denote c<=R.denote c:=
 ul1 c (.add l l') (.add r r') L R v (Int.add_le_add h h')
theorem ul3 (c:Int.Internal.Linear.Context) (l r l' r' m s L R:UX) (v:(Int.Internal.Linear.Expr.sub (.add L (.add r (.add r' s))) (.add R (.add l (.add l' m)))).norm.isValidLe=true) (h:l.denote c<=r.denote c) (h':l'.denote c<=r'.denote c) (k:m.denote c<=s.denote c):L.denote c<=R.denote c:=
 ul1 c (.add l (.add l' m)) (.add r (.add r' s)) L R v (Int.add_le_add h (Int.add_le_add h' k))
theorem um (c:Int.Internal.Linear.Context) (k:Int) (l r:UX) (hk:0<=k) (h:l.denote c<=r.denote c):Int.Internal.Linear.Expr.denote c (.mulL k l)<=Int.Internal.Linear.Expr.denote c (.mulL k r):=Int.mul_le_mul_of_nonneg_left h hk
theorem uen (a k:Int) (h:decide (0 < k)=true):0<=a % k:=Int.emod_nonneg a (Int.ne_of_gt (of_decide_eq_true h))
theorem uel (a k:Int) (h:decide (0 < k)=true):a % k < k:=Int.emod_lt_of_pos a (of_decide_eq_true h)
end Mine
namespace Mine
theorem jk1 {a:Nat}:(0:Int)<=((a:Nat):Int):=ul1 (uc1 ((a:Nat):Int)) (uK 0) u0 (uK 0) u0 rfl (Int.natCast_nonneg a)
theorem jk2 {a b c:Nat} (h:a<=c) (i:c<=b):a<=b:=jl2 (jc3 a b c) j0 j2 j2 j1 j0 j1 rfl h i
theorem jk3 {a b:Nat} (h:b=a+1):a<=b:=jl1 (jc2 a b) (jA j0 (jK 1)) j1 j0 j1 rfl (Nat.le_of_eq (Eq.symm h))
theorem jk4 {a b:Nat} (h:a < b):a+1<=b:=jl1 (jc2 a b) (jA j0 (jK 1)) j1 (jA j0 (jK 1)) j1 rfl h
theorem jk5 {a:Nat} (h:a<=130):a<=900:=jl1 (jc1 a) j0 (jK 130) j0 (jK 900) rfl h
theorem jk6 {a:Nat}:a<=a+1:=jl0 (jc1 a) j0 (jA j0 (jK 1)) rfl
theorem jk7 {a b c:Nat} (h:a=c) (i:c<=b):a<=b:=jl2 (jc3 a b c) j0 j2 j2 j1 j0 j1 rfl (Nat.le_of_eq h) i
theorem jk8 {a b:Nat} (h:¬(b < a)):a<=b:=jl1 (jc2 a b) j0 j1 j0 j1 rfl (Nat.le_of_not_lt h)
theorem jk9 {a b:Int} (h:¬(b < a)):a<=b:=ul1 (uc2 a b) u0 u1 u0 u1 rfl (Int.not_lt.mp h)
theorem jk10 {a b c:Nat} (h:a+(b+1)=c):(a+1)+b=c:=Nat.le_antisymm (jl1 (jc3 a b c) (jA j0 (jA j1 (jK 1))) j2 (jA (jA j0 (jK 1)) j1) j2 rfl (Nat.le_of_eq h)) (jl1 (jc3 c a b) j0 (jA j1 (jA j2 (jK 1))) j0 (jA (jA j1 (jK 1)) j2) rfl (Nat.le_of_eq (Eq.symm h)))
theorem jk11 {a:Nat} (h:a<=10000):a<=400000:=jl1 (jc1 a) j0 (jK 10000) j0 (jK 400000) rfl h
theorem jk12 {a:Int} (h:(1:Int)<=a):(0:Int)<=a:=ul1 (uc1 a) (uK 1) u0 (uK 0) u0 rfl h
theorem jk13 {a b:Nat} (h:a+100 < b):a+64 < b:=jl1 (jc2 a b) (jA (jA j0 (jK 100)) (jK 1)) j1 (jA (jA j0 (jK 64)) (jK 1)) j1 rfl h
theorem jk14 {a b c:Nat} (h:c=a) (i:c<=b):a<=b:=jl2 (jc3 a b c) j0 j2 j2 j1 j0 j1 rfl (Nat.le_of_eq (Eq.symm h)) i
theorem jk15 {a b:Nat} (h:a < b):((a:Nat):Int) < ((b:Nat):Int):=ul1 (uc2 ((a:Nat):Int) ((b:Nat):Int)) (uA u0 (uK 1)) u1 (uA u0 (uK 1)) u1 rfl (Int.ofNat_le.mpr h)
theorem jk16 {a:Nat}:a < a+1:=jl0 (jc1 a) (jA j0 (jK 1)) (jA j0 (jK 1)) rfl
theorem jk17 {a:Int} (h:a<=(30:Int)):a<=(31:Int):=ul1 (uc1 a) u0 (uK 30) u0 (uK 31) rfl h
theorem jk18 {a b c:Int} (h:a<=c) (i:c<=b):a<=b:=ul2 (uc3 a b c) u0 u2 u2 u1 u0 u1 rfl h i
theorem jk19 {a b:Nat} (h:a+(b+1)<=1000):(a+1)+b<=1000:=jl1 (jc2 a b) (jA j0 (jA j1 (jK 1))) (jK 1000) (jA (jA j0 (jK 1)) j1) (jK 1000) rfl h
theorem jk20 {a:Nat} (h:a<=900):a < 1000000:=jl1 (jc1 a) j0 (jK 900) (jA j0 (jK 1)) (jK 1000000) rfl h
theorem jk21 {a b:Nat} (h:a+(b+1)<=900):(a+1)+b<=900:=jl1 (jc2 a b) (jA j0 (jA j1 (jK 1))) (jK 900) (jA (jA j0 (jK 1)) j1) (jK 900) rfl h
theorem jk22 {a:Int} (h:(1:Int)<=a):(1:Nat)<=Int.toNat a:=Int.ofNat_le.mp (ul2 (uc2 (((Int.toNat a):Nat):Int) a) (uK 1) u1 u1 u0 (uK 1) u0 rfl h (Int.le_of_eq (Eq.symm (Int.toNat_of_nonneg (ul1 (uc1 a) (uK 1) u0 (uK 0) u0 rfl h)))))
theorem jk23 {a b:Nat} (h:a<=b):a<=b:=jl1 (jc2 a b) j0 j1 j0 j1 rfl h
theorem jk24 {a b:Nat} (h:a<=b):a<=b+1:=jl1 (jc2 a b) j0 j1 j0 (jA j1 (jK 1)) rfl h
theorem jk25 {a:Int} (h:a < (100:Int)):Int.toNat a < (100:Nat):=by omega
theorem jk26 {a b c:Nat} (h:a < c) (i:b=c):a < b:=jl2 (jc3 a b c) (jA j0 (jK 1)) j2 j2 j1 (jA j0 (jK 1)) j1 rfl h (Nat.le_of_eq (Eq.symm i))
theorem jk27 {a b:Nat} (h:a<=b) (i:¬(a < b)):a=b:=Nat.le_antisymm (jl1 (jc2 a b) j0 j1 j0 j1 rfl h) (jl1 (jc2 b a) j0 j1 j0 j1 rfl (Nat.le_of_not_lt i))
theorem jk28 {a b:Nat} (h:b=a+2):a<=b:=jl1 (jc2 a b) (jA j0 (jK 2)) j1 j0 j1 rfl (Nat.le_of_eq (Eq.symm h))
theorem jk29 {a:Nat} (h:2 < a):1 < a:=jl1 (jc1 a) (jA (jK 2) (jK 1)) j0 (jA (jK 1) (jK 1)) j0 rfl h
theorem jk30 {a b c d:Nat} (h:c+d=b) (i:a < c):a < b:=jl2 (jc4 a b c d) (jA j2 j3) j1 (jA j0 (jK 1)) j2 (jA j0 (jK 1)) j1 rfl (Nat.le_of_eq h) i
theorem jk31 {a:Nat} (h:a<=8):a<=400000:=jl1 (jc1 a) j0 (jK 8) j0 (jK 400000) rfl h
theorem jk32 {a b:Nat} (h:a < b) (i:b=8):a < 8:=jl2 (jc2 a b) (jA j0 (jK 1)) j1 j1 (jK 8) (jA j0 (jK 1)) (jK 8) rfl h (Nat.le_of_eq i)
theorem jk33 {a b c:Nat} (h:a+(c+1)=b):a < b:=jl1 (jc3 a b c) (jA j0 (jA j2 (jK 1))) j1 (jA j0 (jK 1)) j1 rfl (Nat.le_of_eq h)
theorem jk34 {a:Nat}:0+a=a:=Nat.le_antisymm (jl0 (jc1 a) (jA (jK 0) j0) j0 rfl) (jl0 (jc1 a) j0 (jA (jK 0) j0) rfl)
theorem jk35 {a:Nat}:(((a+(1:Nat)):Nat):Int) > (0:Int):=ul1 (uc1 ((a:Nat):Int)) (uK 0) u0 (uA (uK 0) (uK 1)) (uA u0 (uK 1)) rfl (Int.natCast_nonneg a)
theorem jk36 {a:Nat} (h:(0:Nat) < a):((a:Nat):Int) > (0:Int):=ul1 (uc1 ((a:Nat):Int)) (uA (uK 0) (uK 1)) u0 (uA (uK 0) (uK 1)) u0 rfl (Int.ofNat_le.mpr h)
theorem jk37 {a:Int} (h:a<=(30:Int)):Int.toNat a < (31:Nat):=by omega
theorem jk38 {a b:Nat} (h:a+(b+1)<=1000):a < 1000000:=jl1 (jc2 a b) (jA j0 (jA j1 (jK 1))) (jK 1000) (jA j0 (jK 1)) (jK 1000000) rfl h
theorem jk39 {a:Nat} (h:a<=900):0+a<=1000:=jl1 (jc1 a) j0 (jK 900) (jA (jK 0) j0) (jK 1000) rfl h
theorem jk40 {a b:Nat} (h:a+(b+1)<=900):a<=900:=jl1 (jc2 a b) (jA j0 (jA j1 (jK 1))) (jK 900) j0 (jK 900) rfl h
theorem jk41 {a:Int} (h:a<=(30:Int)):a < (100:Int):=ul1 (uc1 a) u0 (uK 30) (uA u0 (uK 1)) (uK 100) rfl h
theorem jk42 {a:Nat} (h:a<=1000):a<=400000:=jl1 (jc1 a) j0 (jK 1000) j0 (jK 400000) rfl h
theorem jk43 {a:Nat} (h:a<=99):a<=110:=jl1 (jc1 a) j0 (jK 99) j0 (jK 110) rfl h
theorem jk44 {a:Nat} (h:a<=8):a+1<=9:=jl1 (jc1 a) j0 (jK 8) (jA j0 (jK 1)) (jK 9) rfl h
theorem jk45 {a:Nat} (h:a<=130):a<=1000:=jl1 (jc1 a) j0 (jK 130) j0 (jK 1000) rfl h
theorem jk46 {a:Int} (h:(0:Int) < a):¬(a=(0:Int)):=Int.ne_of_gt (ul1 (uc1 a) (uA (uK 0) (uK 1)) u0 (uA (uK 0) (uK 1)) u0 rfl h)
theorem jk47 {a b:Nat} (h:a+100 < b):a < b:=jl1 (jc2 a b) (jA (jA j0 (jK 100)) (jK 1)) j1 (jA j0 (jK 1)) j1 rfl h
theorem jk48 {b:Nat} {a:Int} (h:(0:Int)<=a) (i:a < ((b:Nat):Int)):Int.toNat a < b:=Int.ofNat_le.mp (ul2 (uc3 (((Int.toNat a):Nat):Int) ((b:Nat):Int) a) (uA u2 (uK 1)) u1 u0 u2 (uA u0 (uK 1)) u1 rfl i (Int.le_of_eq (Int.toNat_of_nonneg (ul1 (uc1 a) (uK 0) u0 (uK 0) u0 rfl h))))
theorem jk49 {b c d:Nat} {a:Int} (h:((b:Nat):Int) < (2:Int) ^ (62:Nat)) (i:(-((c:Nat):Int))<=a) (j:d=c) (k:d<=b):(-((2:Int) ^ (63:Nat)))<=a:=ul3 (uc4 a ((b:Nat):Int) ((c:Nat):Int) ((d:Nat):Int)) u2 u3 u3 u1 (uA (uA u1 (uK 1)) (uN u2)) (uA (uK 4611686018427387904) u0) (uN (uK 9223372036854775808)) u0 rfl (Int.ofNat_le.mpr (Nat.le_of_eq (Eq.symm j))) (Int.ofNat_le.mpr k) (Int.add_le_add h i)
theorem jk50 {b c d:Nat} {a:Int} (h:((b:Nat):Int) < (2:Int) ^ (62:Nat)) (i:a < ((c:Nat):Int)) (j:d=c) (k:d<=b):a < (2:Int) ^ (63:Nat):=ul3 (uc4 a ((b:Nat):Int) ((c:Nat):Int) ((d:Nat):Int)) u2 u3 u3 u1 (uA (uA u1 (uK 1)) (uA u0 (uK 1))) (uA (uK 4611686018427387904) u2) (uA u0 (uK 1)) (uK 9223372036854775808) rfl (Int.ofNat_le.mpr (Nat.le_of_eq (Eq.symm j))) (Int.ofNat_le.mpr k) (Int.add_le_add h i)
theorem jk51 {a:Nat}:a<=a:=jl0 (jc1 a) j0 j0 rfl
theorem jk52 {a b c:Nat} (h:a=c) (i:b=c):a<=b:=jl2 (jc3 a b c) j0 j2 j2 j1 j0 j1 rfl (Nat.le_of_eq h) (Nat.le_of_eq (Eq.symm i))
theorem jk53 {a b:Nat} (h:a+1<=b):a<=b:=jl1 (jc2 a b) (jA j0 (jK 1)) j1 j0 j1 rfl h
theorem jk54 {a b:Nat} (h:((b:Nat):Int) < (2:Int) ^ (62:Nat)) (i:a<=b):¬(((a:Nat):Int) ≥ ((2:Int) ^ (63:Nat))):=Int.not_le.mpr (ul2 (uc2 ((a:Nat):Int) ((b:Nat):Int)) (uA u1 (uK 1)) (uK 4611686018427387904) u0 u1 (uA u0 (uK 1)) (uK 9223372036854775808) rfl h (Int.ofNat_le.mpr i))
theorem jk55 {a b:Nat} (h:b < a):(a+1) - (b+1) < (a+1) - b:=jl2 (jc4 ((a+(1:Nat)) - (b+(1:Nat))) ((a+(1:Nat)) - b) a b) (jA j2 (jK 1)) (jA j1 j3) (jA j0 (jA j3 (jK 1))) (jA j2 (jK 1)) (jA j0 (jK 1)) j1 rfl (Nat.le_add_of_sub_le (Nat.le_refl ((a+(1:Nat)) - b))) (Nat.le_of_eq (Nat.sub_add_cancel (jl1 (jc2 b a) (jA j0 (jK 1)) j1 (jA j0 (jK 1)) (jA j1 (jK 1)) rfl h)))
theorem jk56 {a b:Nat} (h:b=a+2):a≠b:=Nat.ne_of_lt (jl1 (jc2 a b) (jA j0 (jK 2)) j1 (jA j0 (jK 1)) j1 rfl (Nat.le_of_eq (Eq.symm h)))
theorem jk57 {a b c:Nat} (h:a=c+1) (i:b=c+2):a≠b:=Nat.ne_of_lt (jl2 (jc3 a b c) j0 (jA j2 (jK 1)) (jA j2 (jK 2)) j1 (jA j0 (jK 1)) j1 rfl (Nat.le_of_eq h) (Nat.le_of_eq (Eq.symm i)))
theorem jk58 {a b c d:Nat} (h:b=a) (i:b=c) (j:d=c) (k:d<=100):a<=1000000:=jl3 (jc4 a b c d) j2 j3 j3 (jK 100) (jA j0 j1) (jA j1 j2) j0 (jK 1000000) rfl (Nat.le_of_eq (Eq.symm j)) k (Nat.add_le_add (Nat.le_of_eq (Eq.symm h)) (Nat.le_of_eq i))
theorem jk59 {a b c d:Nat} (h:a=c) (i:c<=d) (j:d<=b):a<=b:=jl3 (jc4 a b c d) j0 j2 j2 j3 j3 j1 j0 j1 rfl (Nat.le_of_eq h) i j
theorem jk60 {a b:Nat} (h:a+2 < b):a+1 < b:=jl1 (jc2 a b) (jA (jA j0 (jK 2)) (jK 1)) j1 (jA (jA j0 (jK 1)) (jK 1)) j1 rfl h
theorem jk61 {a b:Nat} (h:a+2 < b):a < b:=jl1 (jc2 a b) (jA (jA j0 (jK 2)) (jK 1)) j1 (jA j0 (jK 1)) j1 rfl h
theorem jk62 {a b c:Nat} (h:a+b=c) (i:b < c):a - 1 < a:=jl1 (jc2 (a - (1:Nat)) a) (jA j0 (jK 1)) j1 (jA j0 (jK 1)) j1 rfl (Nat.le_of_eq (Nat.sub_add_cancel (jl2 (jc3 a c b) j1 (jA j0 j2) (jA j2 (jK 1)) j1 (jK 1) j0 rfl (Nat.le_of_eq (Eq.symm h)) i)))
theorem jk63 {a b c:Nat} (h:a+b=c) (i:b < c):(a - 1)+(b+1)=c:=Nat.le_antisymm (jl2 (jc4 (a - (1:Nat)) b c a) (jA j3 j1) j2 (jA j0 (jK 1)) j3 (jA j0 (jA j1 (jK 1))) j2 rfl (Nat.le_of_eq h) (Nat.le_of_eq (Nat.sub_add_cancel (jl2 (jc3 a c b) j1 (jA j0 j2) (jA j2 (jK 1)) j1 (jK 1) j0 rfl (Nat.le_of_eq (Eq.symm h)) i)))) (jl2 (jc4 c (a - (1:Nat)) b a) j0 (jA j3 j2) j3 (jA j1 (jK 1)) j0 (jA j1 (jA j2 (jK 1))) rfl (Nat.le_of_eq (Eq.symm h)) (Nat.le_add_of_sub_le (Nat.le_refl (a - (1:Nat)))))
theorem jk64 {a b:Nat} (h:((a:Nat):Int) < ((b:Nat):Int)):a < b:=Int.ofNat_le.mp (ul1 (uc2 ((a:Nat):Int) ((b:Nat):Int)) (uA u0 (uK 1)) u1 (uA u0 (uK 1)) u1 rfl h)
theorem jk65 {a b c:Nat} (h:a < c) (i:c=b):a < b:=jl2 (jc3 a b c) (jA j0 (jK 1)) j2 j2 j1 (jA j0 (jK 1)) j1 rfl h (Nat.le_of_eq i)
theorem jk66 {a b c:Nat} (h:a < c) (i:b=8) (j:c<=8):a<=b:=jl3 (jc3 a b c) (jA j0 (jK 1)) j2 (jK 8) j1 j2 (jK 8) j0 j1 rfl h (Nat.le_of_eq (Eq.symm i)) j
theorem jk67 {a b:Nat} (h:a<=8) (i:b=8):a<=b:=jl2 (jc2 a b) j0 (jK 8) (jK 8) j1 j0 j1 rfl h (Nat.le_of_eq (Eq.symm i))
theorem jk68 {a:Nat} (h:(1:Nat)<=a):(0:Int) < ((a:Nat):Int):=ul1 (uc1 ((a:Nat):Int)) (uK 1) u0 (uA (uK 0) (uK 1)) u0 rfl (Int.ofNat_le.mpr h)
theorem jk69 {a:Int}:(0:Int)<=a % (5:Int):=ul1 (uc1 (a % (5:Int))) (uK 0) u0 (uK 0) u0 rfl (uen a (5:Int) rfl)
theorem jk70 {a:Int}:(0:Int)<=(a / (600:Int)) % (6:Int):=ul1 (uc1 ((a / (600:Int)) % (6:Int))) (uK 0) u0 (uK 0) u0 rfl (uen (a / (600:Int)) (6:Int) rfl)
theorem jk71 {a:Int}:Int.toNat ((a / (600:Int)) % (6:Int)) < (6:Nat):=Int.ofNat_le.mp (ul2 (uc2 (((Int.toNat ((a / (600:Int)) % (6:Int))):Nat):Int) ((a / (600:Int)) % (6:Int))) (uA u1 (uK 1)) (uK 6) u0 u1 (uA u0 (uK 1)) (uK 6) rfl (uel (a / (600:Int)) (6:Int) rfl) (Int.le_of_eq (Int.toNat_of_nonneg (ul1 (uc1 ((a / (600:Int)) % (6:Int))) (uK 0) u0 (uK 0) u0 rfl (uen (a / (600:Int)) (6:Int) rfl)))))
theorem jk72 {a:Nat} (h:(1:Nat)<=a):(1:Int)<=((a:Nat):Int):=ul1 (uc1 ((a:Nat):Int)) (uK 1) u0 (uK 1) u0 rfl (Int.ofNat_le.mpr h)
theorem jk73 {a:Nat} (h:a<=(8:Nat)):((a:Nat):Int)<=(8:Int):=ul1 (uc1 ((a:Nat):Int)) u0 (uK 8) u0 (uK 8) rfl (Int.ofNat_le.mpr h)
theorem jk74 {a:Nat} (h:6<=a):6+(a - 6)=a:=Nat.le_antisymm (jl1 (jc2 (a - (6:Nat)) a) (jA j0 (jK 6)) j1 (jA (jK 6) j0) j1 rfl (Nat.le_of_eq (Nat.sub_add_cancel (jl1 (jc1 a) (jK 6) j0 (jK 6) j0 rfl h)))) (jl1 (jc2 a (a - (6:Nat))) j0 (jA j1 (jK 6)) j0 (jA (jK 6) j1) rfl (Nat.le_add_of_sub_le (Nat.le_refl (a - (6:Nat)))))
theorem jk75 {a:Nat}:a=0+a:=Nat.le_antisymm (jl0 (jc1 a) j0 (jA (jK 0) j0) rfl) (jl0 (jc1 a) (jA (jK 0) j0) j0 rfl)
theorem jk76 {a b c:Nat}:a+(b+c)=(a+b)+c:=Nat.le_antisymm (jl0 (jc3 a b c) (jA j0 (jA j1 j2)) (jA (jA j0 j1) j2) rfl) (jl0 (jc3 a b c) (jA (jA j0 j1) j2) (jA j0 (jA j1 j2)) rfl)
theorem jk77 {a:Nat} (h:a+1 < 1000):a < 1000:=jl1 (jc1 a) (jA (jA j0 (jK 1)) (jK 1)) (jK 1000) (jA j0 (jK 1)) (jK 1000) rfl h
theorem jk78 {a:Nat} (h:(0:Nat) < a):(0:Int) < ((a:Nat):Int):=ul1 (uc1 ((a:Nat):Int)) (uA (uK 0) (uK 1)) u0 (uA (uK 0) (uK 1)) u0 rfl (Int.ofNat_le.mpr h)
theorem jk79 {a:Nat}:(a+1)+3<=a+4:=jl0 (jc1 a) (jA (jA j0 (jK 1)) (jK 3)) (jA j0 (jK 4)) rfl
theorem jk80 {a:Nat}:(0:Int) < (((a+(1:Nat)):Nat):Int):=ul1 (uc1 ((a:Nat):Int)) (uK 0) u0 (uA (uK 0) (uK 1)) (uA u0 (uK 1)) rfl (Int.natCast_nonneg a)
theorem jk81 {a:Nat} (h:a < 2):a < 2:=jl1 (jc1 a) (jA j0 (jK 1)) (jK 2) (jA j0 (jK 1)) (jK 2) rfl h
theorem jk82 {a:Nat} (h:a < 1):a < 2:=jl1 (jc1 a) (jA j0 (jK 1)) (jK 1) (jA j0 (jK 1)) (jK 2) rfl h
theorem jk83 {a:Nat}:((a<=a)/\(a<=(a+2))):=⟨jl0 (jc1 a) j0 j0 rfl,jl0 (jc1 a) j0 (jA j0 (jK 2)) rfl⟩
theorem jk84 {a:Nat}:((a<=(a+2))/\((a+2)<=(a+2))):=⟨jl0 (jc1 a) j0 (jA j0 (jK 2)) rfl,jl0 (jc1 a) (jA j0 (jK 2)) (jA j0 (jK 2)) rfl⟩
theorem jk85 {a:Nat} (h:a+1<=10000):a<=10000:=jl1 (jc1 a) (jA j0 (jK 1)) (jK 10000) j0 (jK 10000) rfl h
theorem jk86 {a b:Int} (h:b ≥ a):a<=b:=ul1 (uc2 a b) u0 u1 u0 u1 rfl h
theorem jk87 {a b c:Int} (h:a < c) (i:c<=b):a < b:=ul2 (uc3 a b c) (uA u0 (uK 1)) u2 u2 u1 (uA u0 (uK 1)) u1 rfl h i
theorem jk88:(31:Int)<=(32:Int):=ul0 (uc1 0) (uK 31) (uK 32) rfl
theorem jk89:(31:Int)<=(31:Int):=ul0 (uc1 0) (uK 31) (uK 31) rfl
theorem jk90:(1:Int)<=(31:Int):=ul0 (uc1 0) (uK 1) (uK 31) rfl
theorem jk91 {a:Int} (h:a<=(30:Int)):(31:Int) ≥ a:=ul1 (uc1 a) u0 (uK 30) u0 (uK 31) rfl h
theorem jk92 {a:Int} (h:a<=(30:Int)):(31:Int) > a:=ul1 (uc1 a) u0 (uK 30) (uA u0 (uK 1)) (uK 31) rfl h
theorem jk93 {a b:Nat} (h:a < b):¬(((a:Nat):Int)=((b:Nat):Int)):=Int.ne_of_lt (ul1 (uc2 ((a:Nat):Int) ((b:Nat):Int)) (uA u0 (uK 1)) u1 (uA u0 (uK 1)) u1 rfl (Int.ofNat_le.mpr h))
theorem jk94 {a:Nat} (h:0 < a):1 < a+1:=jl1 (jc1 a) (jA (jK 0) (jK 1)) j0 (jA (jK 1) (jK 1)) (jA j0 (jK 1)) rfl h
theorem jk95 {a b c:Int}:(a+b) - c=a+(b - c):=Int.le_antisymm (ul0 (uc3 a b c) (uS (uA u0 u1) u2) (uA u0 (uS u1 u2)) rfl) (ul0 (uc3 a b c) (uA u0 (uS u1 u2)) (uS (uA u0 u1) u2) rfl)
theorem jk96 {a:Nat} (h:¬(a=(0:Nat))):((a:Nat):Int)≠(0:Int):=by omega
theorem jk97 {a b:Nat} (h:a < b+1) (i:a ≥ b):a=b:=Nat.le_antisymm (jl1 (jc2 a b) (jA j0 (jK 1)) (jA j1 (jK 1)) j0 j1 rfl h) (jl1 (jc2 b a) j0 j1 j0 j1 rfl i)
theorem jk98 {a b:Nat} (h:a < b):a < b+1:=jl1 (jc2 a b) (jA j0 (jK 1)) j1 (jA j0 (jK 1)) (jA j1 (jK 1)) rfl h
theorem jk99 {a:Nat} (h:a+2<=1000000):a < 1000000:=jl1 (jc1 a) (jA j0 (jK 2)) (jK 1000000) (jA j0 (jK 1)) (jK 1000000) rfl h
theorem jk100 {a:Nat} (h:¬((0:Nat) < a)):¬(((a:Nat):Int) > (0:Int)):=Int.not_lt.mpr (ul1 (uc1 ((a:Nat):Int)) u0 (uK 0) u0 (uK 0) rfl (Int.ofNat_le.mpr (Nat.le_of_not_lt h)))
theorem jk101 {a:Nat} (h:a<=800):0+a<=900:=jl1 (jc1 a) j0 (jK 800) (jA (jK 0) j0) (jK 900) rfl h
theorem jk102 {a b:Nat} (h:a<=330000) (i:b<=1000):a+b<=400000:=jl2 (jc2 a b) j0 (jK 330000) j1 (jK 1000) (jA j0 j1) (jK 400000) rfl h i
theorem jk103 {a:Nat} (h:8 < a):¬(a<=8):=Nat.not_le_of_lt (jl1 (jc1 a) (jA (jK 8) (jK 1)) j0 (jA (jK 8) (jK 1)) j0 rfl h)
theorem jk105 {a:Nat} (h:a<=130):a+1<=1000:=jl1 (jc1 a) j0 (jK 130) (jA j0 (jK 1)) (jK 1000) rfl h
theorem jk106 {a b:Nat} (h:a<=330000) (i:b<=1000):a+b<=1000000:=jl2 (jc2 a b) j0 (jK 330000) j1 (jK 1000) (jA j0 j1) (jK 1000000) rfl h i
theorem jk107 {a:Nat}:(0:Int) < ((a:Nat):Int)+(1:Int):=ul1 (uc1 ((a:Nat):Int)) (uK 0) u0 (uA (uK 0) (uK 1)) (uA u0 (uK 1)) rfl (Int.natCast_nonneg a)
theorem jk108 {a b c:Nat} (h:a<=c) (i:b=c):a<=b:=jl2 (jc3 a b c) j0 j2 j2 j1 j0 j1 rfl h (Nat.le_of_eq (Eq.symm i))
end Mine
section
set_option maxRecDepth 100000
set_option maxHeartbeats 40000000
open PySem PySem.W PySem.Calls PyProof.Rows
namespace Mine.L
noncomputable def K (P:Params):Frag:=[
 (3,{ cls:=Value.type "dict",data:=Data.dict #[{ hash:=PyData.keyHash P (Str.ofString "__name__"),key:=Value.str (Str.ofString "__name__") 165,val:=Value.str (Str.ofString "law_uf040015_12") 512 },{ hash:=PyData.keyHash P (Str.ofString "__doc__"),key:=Value.str (Str.ofString "__doc__") 166,val:=Value.none },{ hash:=PyData.keyHash P (Str.ofString "__package__"),key:=Value.str (Str.ofString "__package__") 167,val:=Value.none },{ hash:=PyData.keyHash P (Str.ofString "__loader__"),key:=Value.str (Str.ofString "__loader__") 168,val:=Value.builtin "__main__.__loader__#opaque" },{ hash:=PyData.keyHash P (Str.ofString "__spec__"),key:=Value.str (Str.ofString "__spec__") 169,val:=Value.none },{ hash:=PyData.keyHash P (Str.ofString "__annotations__"),key:=Value.str (Str.ofString "__annotations__") 170,val:=Value.ref 6 },{ hash:=PyData.keyHash P (Str.ofString "__builtins__"),key:=Value.str (Str.ofString "__builtins__") 171,val:=Value.ref 4 },{ hash:=PyData.keyHash P (Str.ofString "__file__"),key:=Value.str (Str.ofString "__file__") 173,val:=Value.str (Str.ofString "/claim/cut.py") 172 },{ hash:=PyData.keyHash P (Str.ofString "__cached__"),key:=Value.str (Str.ofString "__cached__") 174,val:=Value.none },{ hash:=PyData.keyHash P (Str.ofString "ReadError"),key:=Value.str (Str.ofString "ReadError") 206,val:=Value.ref 24 },{ hash:=PyData.keyHash P (Str.ofString "NoWord"),key:=Value.str (Str.ofString "NoWord") 222,val:=Value.ref 37 },{ hash:=PyData.keyHash P (Str.ofString "NoTelling"),key:=Value.str (Str.ofString "NoTelling") 238,val:=Value.ref 49 },{ hash:=PyData.keyHash P (Str.ofString "Clash"),key:=Value.str (Str.ofString "Clash") 254,val:=Value.ref 61 },{ hash:=PyData.keyHash P (Str.ofString "NoPart"),key:=Value.str (Str.ofString "NoPart") 270,val:=Value.ref 73 },{ hash:=PyData.keyHash P (Str.ofString "NoTree"),key:=Value.str (Str.ofString "NoTree") 286,val:=Value.ref 85 },{ hash:=PyData.keyHash P (Str.ofString "TooMuch"),key:=Value.str (Str.ofString "TooMuch") 302,val:=Value.ref 97 },{ hash:=PyData.keyHash P (Str.ofString "ALONE"),key:=Value.str (Str.ofString "ALONE") 306,val:=Value.str (Str.ofString "();") 305 },{ hash:=PyData.keyHash P (Str.ofString "SIGNS"),key:=Value.str (Str.ofString "SIGNS") 308,val:=Value.str (Str.ofString "!\"#$&'*+,-./0123456789:<=>?@ABCDEFGHIJKLMNOPQRSTUVWXYZ[\\]^_`abcdefghijklmnopqrstuvwxyz{|}~") 307 },{ hash:=PyData.keyHash P (Str.ofString "LONGEST"),key:=Value.str (Str.ofString "LONGEST") 310,val:=Value.int 8 309 },{ hash:=PyData.keyHash P (Str.ofString "is_word"),key:=Value.str (Str.ofString "is_word") 318,val:=Value.ref 106 },{ hash:=PyData.keyHash P (Str.ofString "cut"),key:=Value.str (Str.ofString "cut") 328,val:=Value.ref 113 },{ hash:=PyData.keyHash P (Str.ofString "KINDS"),key:=Value.str (Str.ofString "KINDS") 336,val:=Value.ref 114 },{ hash:=PyData.keyHash P (Str.ofString "MOST_STRENGTH"),key:=Value.str (Str.ofString "MOST_STRENGTH") 338,val:=Value.int 30 337 },{ hash:=PyData.keyHash P (Str.ofString "is_telling"),key:=Value.str (Str.ofString "is_telling") 345,val:=Value.ref 121 },{ hash:=PyData.keyHash P (Str.ofString "role"),key:=Value.str (Str.ofString "role") 355,val:=Value.ref 128 },{ hash:=PyData.keyHash P (Str.ofString "added"),key:=Value.str (Str.ofString "added") 364,val:=Value.ref 135 },{ hash:=PyData.keyHash P (Str.ofString "NAMES"),key:=Value.str (Str.ofString "NAMES") 368,val:=Value.int 31 367 },{ hash:=PyData.keyHash P (Str.ofString "is_name"),key:=Value.str (Str.ofString "is_name") 376,val:=Value.ref 142 },{ hash:=PyData.keyHash P (Str.ofString "enough"),key:=Value.str (Str.ofString "enough") 385,val:=Value.ref 149 },{ hash:=PyData.keyHash P (Str.ofString "MOST_WORDS"),key:=Value.str (Str.ofString "MOST_WORDS") 389,val:=Value.int 99 388 },{ hash:=PyData.keyHash P (Str.ofString "first_at"),key:=Value.str (Str.ofString "first_at") 403,val:=Value.ref 156 },{ hash:=PyData.keyHash P (Str.ofString "least_right"),key:=Value.str (Str.ofString "least_right") 410,val:=Value.ref 163 },{ hash:=PyData.keyHash P (Str.ofString "read_at"),key:=Value.str (Str.ofString "read_at") 426,val:=Value.ref 170 },{ hash:=PyData.keyHash P (Str.ofString "tree_of"),key:=Value.str (Str.ofString "tree_of") 437,val:=Value.ref 177 },{ hash:=PyData.keyHash P (Str.ofString "FIGURES"),key:=Value.str (Str.ofString "FIGURES") 441,val:=Value.str (Str.ofString "0123456789") 440 },{ hash:=PyData.keyHash P (Str.ofString "strength_of"),key:=Value.str (Str.ofString "strength_of") 449,val:=Value.ref 184 },{ hash:=PyData.keyHash P (Str.ofString "telling_of"),key:=Value.str (Str.ofString "telling_of") 456,val:=Value.ref 191 },{ hash:=PyData.keyHash P (Str.ofString "Reader"),key:=Value.str (Str.ofString "Reader") 500,val:=Value.ref 222 },{ hash:=PyData.keyHash P (Str.ofString "read"),key:=Value.str (Str.ofString "read") 511,val:=Value.ref 233 },{ hash:=PyData.keyHash P (Str.ofString "_law_mixed"),key:=Value.str (Str.ofString "_law_mixed") 522,val:=Value.ref 240 },{ hash:=PyData.keyHash P (Str.ofString "_law_cell_at"),key:=Value.str (Str.ofString "_law_cell_at") 530,val:=Value.ref 247 },{ hash:=PyData.keyHash P (Str.ofString "_law_cells"),key:=Value.str (Str.ofString "_law_cells") 536,val:=Value.ref 252 },{ hash:=PyData.keyHash P (Str.ofString "_law_sign_by"),key:=Value.str (Str.ofString "_law_sign_by") 544,val:=Value.ref 259 },{ hash:=PyData.keyHash P (Str.ofString "_law_word_by"),key:=Value.str (Str.ofString "_law_word_by") 550,val:=Value.ref 264 },{ hash:=PyData.keyHash P (Str.ofString "_law_words_by"),key:=Value.str (Str.ofString "_law_words_by") 556,val:=Value.ref 269 },{ hash:=PyData.keyHash P (Str.ofString "_law_role"),key:=Value.str (Str.ofString "_law_role") 566,val:=Value.ref 276 },{ hash:=PyData.keyHash P (Str.ofString "_law_clash"),key:=Value.str (Str.ofString "_law_clash") 575,val:=Value.ref 283 },{ hash:=PyData.keyHash P (Str.ofString "_law_telling_by"),key:=Value.str (Str.ofString "_law_telling_by") 585,val:=Value.ref 290 },{ hash:=PyData.keyHash P (Str.ofString "_law_name_by"),key:=Value.str (Str.ofString "_law_name_by") 596,val:=Value.ref 297 },{ hash:=PyData.keyHash P (Str.ofString "_law_grown_by"),key:=Value.str (Str.ofString "_law_grown_by") 609,val:=Value.ref 304 },{ hash:=PyData.keyHash P (Str.ofString "_law_tree_by"),key:=Value.str (Str.ofString "_law_tree_by") 623,val:=Value.ref 311 },{ hash:=PyData.keyHash P (Str.ofString "_law_strength"),key:=Value.str (Str.ofString "_law_strength") 631,val:=Value.ref 318 },{ hash:=PyData.keyHash P (Str.ofString "_law_enough"),key:=Value.str (Str.ofString "_law_enough") 640,val:=Value.ref 325 },{ hash:=PyData.keyHash P (Str.ofString "_law_operand"),key:=Value.str (Str.ofString "_law_operand") 652,val:=Value.ref 332 },{ hash:=PyData.keyHash P (Str.ofString "_law_row_by"),key:=Value.str (Str.ofString "_law_row_by") 663,val:=Value.ref 339 },{ hash:=PyData.keyHash P (Str.ofString "_law_parts_by"),key:=Value.str (Str.ofString "_law_parts_by") 669,val:=Value.ref 344 },{ hash:=PyData.keyHash P (Str.ofString "_law_is_telling"),key:=Value.str (Str.ofString "_law_is_telling") 676,val:=Value.ref 351 },{ hash:=PyData.keyHash P (Str.ofString "_law_rows_by"),key:=Value.str (Str.ofString "_law_rows_by") 687,val:=Value.ref 358 },{ hash:=PyData.keyHash P (Str.ofString "_law_alike"),key:=Value.str (Str.ofString "_law_alike") 697,val:=Value.ref 365 },{ hash:=PyData.keyHash P (Str.ofString "_law_list"),key:=Value.str (Str.ofString "_law_list") 706,val:=Value.ref 372 },{ hash:=PyData.keyHash P (Str.ofString "_law_text"),key:=Value.str (Str.ofString "_law_text") 719,val:=Value.ref 379 },{ hash:=PyData.keyHash P (Str.ofString "_law_held"),key:=Value.str (Str.ofString "_law_held") 728,val:=Value.ref 386 },{ hash:=PyData.keyHash P (Str.ofString "_law_fit"),key:=Value.str (Str.ofString "_law_fit") 734,val:=Value.ref 391 },{ hash:=PyData.keyHash P (Str.ofString "_law_by_root"),key:=Value.str (Str.ofString "_law_by_root") 740,val:=Value.ref 396 },{ hash:=PyData.keyHash P (Str.ofString "_law_trees"),key:=Value.str (Str.ofString "_law_trees") 746,val:=Value.ref 401 },{ hash:=PyData.keyHash P (Str.ofString "_law_once_more"),key:=Value.str (Str.ofString "_law_once_more") 752,val:=Value.ref 406 },{ hash:=PyData.keyHash P (Str.ofString "_law_wrong"),key:=Value.str (Str.ofString "_law_wrong") 764,val:=Value.ref 413 },{ hash:=PyData.keyHash P (Str.ofString "_law_refusal"),key:=Value.str (Str.ofString "_law_refusal") 771,val:=Value.ref 420 },{ hash:=PyData.keyHash P (Str.ofString "_law_alone"),key:=Value.str (Str.ofString "_law_alone") 779,val:=Value.ref 427 },{ hash:=PyData.keyHash P (Str.ofString "_law_refused_by_any"),key:=Value.str (Str.ofString "_law_refused_by_any") 787,val:=Value.ref 434 },{ hash:=PyData.keyHash P (Str.ofString "law"),key:=Value.str (Str.ofString "law") 793,val:=Value.ref 439 }] 71 }),
 (6,{ cls:=Value.type "dict",data:=Data.dict #[] }),
 (15,{ cls:=Value.type "tuple",data:=Data.seq #[Value.type "ValueError"] }),
 (22,{ cls:=Value.type "tuple",data:=Data.seq #[] }),
 (23,{ cls:=Value.type "dict",data:=Data.dict #[{ hash:=PyData.keyHash P (Str.ofString "__module__"),key:=Value.str (Str.ofString "__module__") 196,val:=Value.str (Str.ofString "precread.errors") 187 },{ hash:=PyData.keyHash P (Str.ofString "__firstlineno__"),key:=Value.str (Str.ofString "__firstlineno__") 200,val:=Value.int 2 199 },{ hash:=PyData.keyHash P (Str.ofString "__static_attributes__"),key:=Value.str (Str.ofString "__static_attributes__") 201,val:=Value.ref 22 },{ hash:=PyData.keyHash P (Str.ofString "__weakref__"),key:=Value.str (Str.ofString "__weakref__") 203,val:=Value.ref 25 },{ hash:=PyData.keyHash P (Str.ofString "__doc__"),key:=Value.str (Str.ofString "__doc__") 204,val:=Value.none }] 3 }),
 (24,{ cls:=Value.type "type",data:=Data.cls { name:=Str.ofString "ReadError",bases:=[Value.type "ValueError"],mro:=[Value.ref 24,Value.type "ValueError",Value.type "Exception",Value.type "BaseException",Value.type "object"],ns:=23,qualname:=Str.ofString "ReadError",subclasses:=[Value.ref 37,Value.ref 49,Value.ref 61,Value.ref 73,Value.ref 85,Value.ref 97] },slots:=#[Option.some (Value.ref 15),Option.none,Option.some (Value.str (Str.ofString "ReadError") 189),Option.some (Value.str (Str.ofString "ReadError") 197),Option.some (Value.builtin "ValueError.__new__"),Option.some (Value.bool Bool.true)] }),
 (28,{ cls:=Value.type "tuple",data:=Data.seq #[Value.ref 24] }),
 (35,{ cls:=Value.type "tuple",data:=Data.seq #[] }),
 (36,{ cls:=Value.type "dict",data:=Data.dict #[{ hash:=PyData.keyHash P (Str.ofString "__module__"),key:=Value.str (Str.ofString "__module__") 214,val:=Value.str (Str.ofString "precread.errors") 187 },{ hash:=PyData.keyHash P (Str.ofString "__firstlineno__"),key:=Value.str (Str.ofString "__firstlineno__") 218,val:=Value.int 4 217 },{ hash:=PyData.keyHash P (Str.ofString "__static_attributes__"),key:=Value.str (Str.ofString "__static_attributes__") 219,val:=Value.ref 35 },{ hash:=PyData.keyHash P (Str.ofString "__doc__"),key:=Value.str (Str.ofString "__doc__") 220,val:=Value.none }] 2 }),
 (37,{ cls:=Value.type "type",data:=Data.cls { name:=Str.ofString "NoWord",bases:=[Value.ref 24],mro:=[Value.ref 37,Value.ref 24,Value.type "ValueError",Value.type "Exception",Value.type "BaseException",Value.type "object"],ns:=36,qualname:=Str.ofString "NoWord" },slots:=#[Option.some (Value.ref 28),Option.none,Option.some (Value.str (Str.ofString "NoWord") 207),Option.some (Value.str (Str.ofString "NoWord") 215),Option.some (Value.builtin "ValueError.__new__"),Option.some (Value.bool Bool.true)] }),
 (40,{ cls:=Value.type "tuple",data:=Data.seq #[Value.ref 24] }),
 (47,{ cls:=Value.type "tuple",data:=Data.seq #[] }),
 (48,{ cls:=Value.type "dict",data:=Data.dict #[{ hash:=PyData.keyHash P (Str.ofString "__module__"),key:=Value.str (Str.ofString "__module__") 230,val:=Value.str (Str.ofString "precread.errors") 187 },{ hash:=PyData.keyHash P (Str.ofString "__firstlineno__"),key:=Value.str (Str.ofString "__firstlineno__") 234,val:=Value.int 6 233 },{ hash:=PyData.keyHash P (Str.ofString "__static_attributes__"),key:=Value.str (Str.ofString "__static_attributes__") 235,val:=Value.ref 47 },{ hash:=PyData.keyHash P (Str.ofString "__doc__"),key:=Value.str (Str.ofString "__doc__") 236,val:=Value.none }] 2 }),
 (49,{ cls:=Value.type "type",data:=Data.cls { name:=Str.ofString "NoTelling",bases:=[Value.ref 24],mro:=[Value.ref 49,Value.ref 24,Value.type "ValueError",Value.type "Exception",Value.type "BaseException",Value.type "object"],ns:=48,qualname:=Str.ofString "NoTelling" },slots:=#[Option.some (Value.ref 40),Option.none,Option.some (Value.str (Str.ofString "NoTelling") 223),Option.some (Value.str (Str.ofString "NoTelling") 231),Option.some (Value.builtin "ValueError.__new__"),Option.some (Value.bool Bool.true)] }),
 (52,{ cls:=Value.type "tuple",data:=Data.seq #[Value.ref 24] }),
 (59,{ cls:=Value.type "tuple",data:=Data.seq #[] }),
 (60,{ cls:=Value.type "dict",data:=Data.dict #[{ hash:=PyData.keyHash P (Str.ofString "__module__"),key:=Value.str (Str.ofString "__module__") 246,val:=Value.str (Str.ofString "precread.errors") 187 },{ hash:=PyData.keyHash P (Str.ofString "__firstlineno__"),key:=Value.str (Str.ofString "__firstlineno__") 250,val:=Value.int 8 249 },{ hash:=PyData.keyHash P (Str.ofString "__static_attributes__"),key:=Value.str (Str.ofString "__static_attributes__") 251,val:=Value.ref 59 },{ hash:=PyData.keyHash P (Str.ofString "__doc__"),key:=Value.str (Str.ofString "__doc__") 252,val:=Value.none }] 2 }),
 (61,{ cls:=Value.type "type",data:=Data.cls { name:=Str.ofString "Clash",bases:=[Value.ref 24],mro:=[Value.ref 61,Value.ref 24,Value.type "ValueError",Value.type "Exception",Value.type "BaseException",Value.type "object"],ns:=60,qualname:=Str.ofString "Clash" },slots:=#[Option.some (Value.ref 52),Option.none,Option.some (Value.str (Str.ofString "Clash") 239),Option.some (Value.str (Str.ofString "Clash") 247),Option.some (Value.builtin "ValueError.__new__"),Option.some (Value.bool Bool.true)] }),
 (64,{ cls:=Value.type "tuple",data:=Data.seq #[Value.ref 24] }),
 (71,{ cls:=Value.type "tuple",data:=Data.seq #[] }),
 (72,{ cls:=Value.type "dict",data:=Data.dict #[{ hash:=PyData.keyHash P (Str.ofString "__module__"),key:=Value.str (Str.ofString "__module__") 262,val:=Value.str (Str.ofString "precread.errors") 187 },{ hash:=PyData.keyHash P (Str.ofString "__firstlineno__"),key:=Value.str (Str.ofString "__firstlineno__") 266,val:=Value.int 10 265 },{ hash:=PyData.keyHash P (Str.ofString "__static_attributes__"),key:=Value.str (Str.ofString "__static_attributes__") 267,val:=Value.ref 71 },{ hash:=PyData.keyHash P (Str.ofString "__doc__"),key:=Value.str (Str.ofString "__doc__") 268,val:=Value.none }] 2 }),
 (73,{ cls:=Value.type "type",data:=Data.cls { name:=Str.ofString "NoPart",bases:=[Value.ref 24],mro:=[Value.ref 73,Value.ref 24,Value.type "ValueError",Value.type "Exception",Value.type "BaseException",Value.type "object"],ns:=72,qualname:=Str.ofString "NoPart" },slots:=#[Option.some (Value.ref 64),Option.none,Option.some (Value.str (Str.ofString "NoPart") 255),Option.some (Value.str (Str.ofString "NoPart") 263),Option.some (Value.builtin "ValueError.__new__"),Option.some (Value.bool Bool.true)] }),
 (76,{ cls:=Value.type "tuple",data:=Data.seq #[Value.ref 24] }),
 (83,{ cls:=Value.type "tuple",data:=Data.seq #[] }),
 (84,{ cls:=Value.type "dict",data:=Data.dict #[{ hash:=PyData.keyHash P (Str.ofString "__module__"),key:=Value.str (Str.ofString "__module__") 278,val:=Value.str (Str.ofString "precread.errors") 187 },{ hash:=PyData.keyHash P (Str.ofString "__firstlineno__"),key:=Value.str (Str.ofString "__firstlineno__") 282,val:=Value.int 12 281 },{ hash:=PyData.keyHash P (Str.ofString "__static_attributes__"),key:=Value.str (Str.ofString "__static_attributes__") 283,val:=Value.ref 83 },{ hash:=PyData.keyHash P (Str.ofString "__doc__"),key:=Value.str (Str.ofString "__doc__") 284,val:=Value.none }] 2 }),
 (85,{ cls:=Value.type "type",data:=Data.cls { name:=Str.ofString "NoTree",bases:=[Value.ref 24],mro:=[Value.ref 85,Value.ref 24,Value.type "ValueError",Value.type "Exception",Value.type "BaseException",Value.type "object"],ns:=84,qualname:=Str.ofString "NoTree" },slots:=#[Option.some (Value.ref 76),Option.none,Option.some (Value.str (Str.ofString "NoTree") 271),Option.some (Value.str (Str.ofString "NoTree") 279),Option.some (Value.builtin "ValueError.__new__"),Option.some (Value.bool Bool.true)] }),
 (88,{ cls:=Value.type "tuple",data:=Data.seq #[Value.ref 24] }),
 (95,{ cls:=Value.type "tuple",data:=Data.seq #[] }),
 (96,{ cls:=Value.type "dict",data:=Data.dict #[{ hash:=PyData.keyHash P (Str.ofString "__module__"),key:=Value.str (Str.ofString "__module__") 294,val:=Value.str (Str.ofString "precread.errors") 187 },{ hash:=PyData.keyHash P (Str.ofString "__firstlineno__"),key:=Value.str (Str.ofString "__firstlineno__") 298,val:=Value.int 14 297 },{ hash:=PyData.keyHash P (Str.ofString "__static_attributes__"),key:=Value.str (Str.ofString "__static_attributes__") 299,val:=Value.ref 95 },{ hash:=PyData.keyHash P (Str.ofString "__doc__"),key:=Value.str (Str.ofString "__doc__") 300,val:=Value.none }] 2 }),
 (97,{ cls:=Value.type "type",data:=Data.cls { name:=Str.ofString "TooMuch",bases:=[Value.ref 24],mro:=[Value.ref 97,Value.ref 24,Value.type "ValueError",Value.type "Exception",Value.type "BaseException",Value.type "object"],ns:=96,qualname:=Str.ofString "TooMuch" },slots:=#[Option.some (Value.ref 88),Option.none,Option.some (Value.str (Str.ofString "TooMuch") 287),Option.some (Value.str (Str.ofString "TooMuch") 295),Option.some (Value.builtin "ValueError.__new__"),Option.some (Value.bool Bool.true)] }),
 (114,{ cls:=Value.type "tuple",data:=Data.seq #[Value.str (Str.ofString "left") 331,Value.str (Str.ofString "right") 332,Value.str (Str.ofString "none") 333,Value.str (Str.ofString "before") 334,Value.str (Str.ofString "behind") 335] }),
 (220,{ cls:=Value.type "tuple",data:=Data.seq #[Value.str (Str.ofString "told") 492] }),
 (221,{ cls:=Value.type "dict",data:=Data.dict #[{ hash:=PyData.keyHash P (Str.ofString "__module__"),key:=Value.str (Str.ofString "__module__") 464,val:=Value.str (Str.ofString "precread.texts") 438 },{ hash:=PyData.keyHash P (Str.ofString "__firstlineno__"),key:=Value.str (Str.ofString "__firstlineno__") 468,val:=Value.int 133 467 },{ hash:=PyData.keyHash P (Str.ofString "__init__"),key:=Value.str (Str.ofString "__init__") 475,val:=Value.ref 205 },{ hash:=PyData.keyHash P (Str.ofString "take"),key:=Value.str (Str.ofString "take") 484,val:=Value.ref 212 },{ hash:=PyData.keyHash P (Str.ofString "table"),key:=Value.str (Str.ofString "table") 491,val:=Value.ref 219 },{ hash:=PyData.keyHash P (Str.ofString "__static_attributes__"),key:=Value.str (Str.ofString "__static_attributes__") 493,val:=Value.ref 220 },{ hash:=PyData.keyHash P (Str.ofString "__dict__"),key:=Value.str (Str.ofString "__dict__") 495,val:=Value.ref 223 },{ hash:=PyData.keyHash P (Str.ofString "__weakref__"),key:=Value.str (Str.ofString "__weakref__") 497,val:=Value.ref 224 },{ hash:=PyData.keyHash P (Str.ofString "__doc__"),key:=Value.str (Str.ofString "__doc__") 498,val:=Value.none }] 4 }),
 (222,{ cls:=Value.type "type",data:=Data.cls { name:=Str.ofString "Reader",bases:=[Value.type "object"],mro:=[Value.ref 222,Value.type "object"],ns:=221,qualname:=Str.ofString "Reader" },slots:=#[Option.none,Option.none,Option.some (Value.str (Str.ofString "Reader") 457),Option.some (Value.str (Str.ofString "Reader") 465),Option.some (Value.builtin "object.__new__"),Option.some (Value.bool Bool.true)] })]
noncomputable def addrs:List Addr:=[3,6,15,22,23,24,28,35,36,37,40,47,48,49,52,59,60,61,64,71,72,73,76,83,84,85,88,95,96,97,114,220,221,222]
noncomputable abbrev pw:Program:=PySem.Challenge.pw_uf040015_12
noncomputable def hk:Hook:=kHook K addrs (fun _=>by kernel_rfl)
theorem said:PySem.Challenge.rw_uf040015_12.wellSaid=true:=by
 rw [PySem.W.Fast.te9446332074065402090]
 decide+kernel
theorem left:LeftO pw pw [] (fun s=>xlAt pw [] s&&recOk [] s) (Hook.obs hk) (Hook.val hk) 9000:=fun w=>by
 unfold openEnds fencedOpening topFrom
 rw [PySem.W.Fast.te14082659384304107361,PySem.W.Fast.te14364793385576792824,PySem.W.Fast.te4187177175401517315,PySem.W.Fast.te10274390034422433532,PySem.W.Fast.te14289696077712309145,PySem.W.Fast.te1435165496053646825,PySem.W.Fast.te5923862056798008813]
 kernel_rfl
end Mine.L
end
set_option Elab.async false
namespace Mine
open PySem PyProof.Rows
inductive D where
 | none
 | bool (b:Bool)
 | int (i:Int)
 | str (l:List Nat)
 | tup (l:List D)
 | ref (a:Addr)
 | scr
 | exc (a:Addr) (c:Nat)
 | cls (c:Nat)
 | rng (a b:Int)
 deriving Inhabited
inductive HObj where
 | list (l:List D)
 | robj (d:Addr) (t:Option Addr)
 | aux (a:Addr)
 deriving Inhabited
noncomputable abbrev Hp:=Addr->Option HObj
noncomputable def Hp.set (H:Hp) (a:Addr) (o:HObj):Hp:=fun b=>if b=a then some o else H b
theorem Hp.set_self (H:Hp) (a:Addr) (o:HObj):(H.set a o) a=some o:=by simp [Hp.set]
theorem Hp.set_other (H:Hp) {a b:Addr} (o:HObj) (h:b≠a):(H.set a o) b=H b:=by simp [Hp.set,h]
noncomputable def Hp.Le (H H':Hp):Prop:=∀a o,H a=some o->H' a=some o
theorem Hp.Le.refl (H:Hp):H.Le H:=fun _ _ h=>h
theorem Hp.Le.trans {H H' H'':Hp} (x:H.Le H') (y:H'.Le H''):H.Le H'':=fun a o h=>y a o (x a o h)
theorem Hp.Le.set {H:Hp} {a:Addr} (o:HObj) (h:H a=none):H.Le (H.set a o):=fun b o' e=>by
 rw [Hp.set_other];exact e
 intro q;subst q;rw [h] at e;cases e
noncomputable def SZ:Nat:=1000000
theorem SZ_le:SZ<=sizeLine:=by decide
structure Bs where
 base:Heap
 scr:Addr
 ns:List Int
 clsv:Nat->Value
 rdr:Value
 fa:Nat->Addr
 mg:Str->Option Value
 mb:Str->Option Value
mutual
noncomputable def Rep (B:Bs) (h:Heap):D->Value->Prop
 | .none,v=>v=.none
 | .bool b,v=>v=.bool b
 | .int i,v=>∃t,v=.int i t
 | .str l,v=>l.length<=SZ/\(∀c∈l,c < 128)/\∃t,v=.str ⟨l.toArray⟩ t
 | .tup l,v=>∃a vs n,v=.ref a/\IsT h a vs n/\vs.size<=SZ/\RepL B h l vs.toList
 | .ref a,v=>v=.ref a
 | .scr,v=>v=.ref B.scr
 | .exc a c,v=>v=.ref a/\∃o vs C,h.get? a=some o/\o.cls=.ref C/\B.clsv c=.ref C/\o.data=.fields vs
 | .cls c,v=>v=B.clsv c/\(c<=6->∃C,B.clsv c=.ref C)
 | .rng a b,v=>∃r t u q,v=.ref r/\IsRange h r a b 1 t u q
noncomputable def RepL (B:Bs) (h:Heap):List D->List Value->Prop
 | [],vs=>vs=[]
 | d::ds,vs=>∃v r,vs=v::r/\Rep B h d v/\RepL B h ds r
end
section
variable {B:Bs} {h:Heap}
theorem rep_none:Rep B h .none .none:=by simp only [Rep]
theorem rep_bool {b:Bool}:Rep B h (.bool b) (.bool b):=by simp only [Rep]
theorem rep_int {i:Int} {t:Tok}:Rep B h (.int i) (.int i t):=by simp only [Rep];exact ⟨_,rfl⟩
theorem rep_ref {a:Addr}:Rep B h (.ref a) (.ref a):=by simp only [Rep]
theorem rep_cls {c:Nat} (e:c<=6->∃C,B.clsv c=.ref C):Rep B h (.cls c) (B.clsv c):=by simp only [Rep];exact ⟨trivial,e⟩
end
theorem RepL.length {B:Bs} {h:Heap}:∀{ds:List D} {vs:List Value},RepL B h ds vs->vs.length=ds.length
 | [],_,x=>by simp only [RepL] at x;subst x;rfl
 | _::_,_,x=>by simp only [RepL] at x;obtain ⟨v,r,rfl,_,y⟩:=x;simp [RepL.length y]
theorem RepL.get {B:Bs} {h:Heap}:∀{ds:List D} {vs:List Value} {i:Nat} {d:D},RepL B h ds vs->ds[i]?=some d->∃v,vs[i]?=some v/\Rep B h d v
 | [],_,_,_,_,e=>by simp at e
 | d::ds,_,i,d',x,e=>by
  simp only [RepL] at x
  obtain ⟨v,r,rfl,hd,y⟩:=x
  cases i with
  | zero=>simp at e;subst e;exact ⟨v,by simp,hd⟩
  | succ i=>simp at e;simpa using RepL.get y e
theorem RepL.append {B:Bs} {h:Heap}:∀{ds es:List D} {vs ws:List Value},RepL B h ds vs->RepL B h es ws->RepL B h (ds++es) (vs++ws)
 | [],_,_,_,x,y=>by simp only [RepL] at x;subst x;simpa using y
 | d::ds,_,_,_,x,y=>by
  simp only [RepL] at x
  obtain ⟨v,r,rfl,hd,z⟩:=x
  simp only [List.cons_append,RepL]
  exact ⟨v,_,rfl,hd,RepL.append z y⟩
theorem RepL.cons {B:Bs} {h:Heap} {d:D} {ds:List D} {v:Value} {vs:List Value} (x:Rep B h d v) (y:RepL B h ds vs):RepL B h (d::ds) (v::vs):=by
 simp only [RepL];exact ⟨v,vs,rfl,x,y⟩
theorem RepL.nil {B:Bs} {h:Heap}:RepL B h [] []:=by simp only [RepL]
theorem RepL.take {B:Bs} {h:Heap}:∀{ds:List D} {vs:List Value} (n:Nat),RepL B h ds vs->RepL B h (ds.take n) (vs.take n)
 | [],_,n,x=>by simp only [RepL] at x;subst x;simp [RepL.nil]
 | d::ds,_,0,x=>by simp [RepL.nil]
 | d::ds,_,n+1,x=>by
  simp only [RepL] at x
  obtain ⟨v,r,rfl,hd,z⟩:=x
  simpa using RepL.cons hd (RepL.take n z)
theorem RepL.drop {B:Bs} {h:Heap}:∀{ds:List D} {vs:List Value} (n:Nat),RepL B h ds vs->RepL B h (ds.drop n) (vs.drop n)
 | [],_,n,x=>by simp only [RepL] at x;subst x;simp [RepL.nil]
 | d::ds,_,0,x=>by simpa using x
 | d::ds,_,n+1,x=>by
  simp only [RepL] at x
  obtain ⟨v,r,rfl,hd,z⟩:=x
  simpa using RepL.drop n z
theorem RepL.set {B:Bs} {h:Heap}:∀{ds:List D} {vs:List Value} (n:Nat) {d:D} {v:Value},RepL B h ds vs->Rep B h d v->RepL B h (ds.set n d) (vs.set n v)
 | [],_,n,_,_,x,_=>by simp only [RepL] at x;subst x;simp [RepL.nil]
 | _::ds,_,0,_,_,x,y=>by
  simp only [RepL] at x
  obtain ⟨v,r,rfl,hd,z⟩:=x
  simpa using RepL.cons y z
 | _::ds,_,n+1,_,_,x,y=>by
  simp only [RepL] at x
  obtain ⟨v,r,rfl,hd,z⟩:=x
  simpa using RepL.cons hd (RepL.set n z y)
noncomputable def KeepO (o o':Obj):Prop:=o'=o\/((∃es n,o.data=.dict es n)/\∃sl,o'={ o with slots:=sl })
theorem KeepO.refl (o:Obj):KeepO o o:=Or.inl rfl
theorem KeepO.trans {o o' o'':Obj} (x:KeepO o o') (y:KeepO o' o''):KeepO o o'':=by
 rcases x with rfl | ⟨hd,sl,rfl⟩
 ·exact y
 ·rcases y with rfl | ⟨_,sl',rfl⟩
  ·exact Or.inr ⟨hd,sl,rfl⟩
  ·exact Or.inr ⟨hd,sl',rfl⟩
theorem KeepO.eq {o o':Obj} (x:KeepO o o') (h:∀es n,o.data≠.dict es n):o'=o:=by
 rcases x with rfl | ⟨⟨es,n,hd⟩,_⟩
 ·rfl
 ·exact absurd hd (h es n)
theorem KeepO.data {o o':Obj} (x:KeepO o o'):o'.data=o.data:=by
 rcases x with rfl | ⟨_,sl,rfl⟩ <;> rfl
theorem KeepO.cls {o o':Obj} (x:KeepO o o'):o'.cls=o.cls:=by
 rcases x with rfl | ⟨_,sl,rfl⟩ <;> rfl
structure Keep (own:Addr->Prop) (H:Hp) (s:Shared) (H':Hp) (s':Shared):Prop where
 obj:∀a o,s.heap.get? a=some o->H a=none->¬own a->(∃o',s'.heap.get? a=some o'/\KeepO o o')/\H' a=none
 size:s.heap.objs.size<=s'.heap.objs.size
 gens:s'.gens=s.gens
 os:s'.os=s.os
noncomputable def noOwn:Addr->Prop:=fun _=>False
theorem Keep.refl {own:Addr->Prop} {H:Hp} {s:Shared}:Keep own H s H s:=⟨fun _ o e hn _=>⟨⟨o,e,.refl o⟩,hn⟩,Nat.le_refl _,rfl,rfl⟩
theorem Keep.trans {own:Addr->Prop} {H H' H'':Hp} {s s' s'':Shared} (x:Keep own H s H' s') (y:Keep own H' s' H'' s''):Keep own H s H'' s'':=
 ⟨fun a o e hn ho=>by
  obtain ⟨⟨o',e',k⟩,hn'⟩:=x.obj a o e hn ho
  obtain ⟨⟨o'',e'',k'⟩,hn''⟩:=y.obj a o' e' hn' ho
  exact ⟨⟨o'',e'',k.trans k'⟩,hn''⟩,Nat.le_trans x.size y.size,y.gens.trans x.gens,y.os.trans x.os⟩
theorem Keep.weaken {own own':Addr->Prop} {H H':Hp} {s s':Shared} (x:Keep own H s H' s') (h:∀a,own a->own' a):Keep own' H s H' s':=
 ⟨fun a o e hn ho=>x.obj a o e hn fun q=>ho (h a q),x.size,x.gens,x.os⟩
theorem Keep.grow {own:Addr->Prop} {H:Hp} {s s':Shared} (k:∀a o,s.heap.get? a=some o->s'.heap.get? a=some o) (hs:s.heap.objs.size<=s'.heap.objs.size) (hg:s'.gens=s.gens) (ho:s'.os=s.os):Keep own H s H s':=
 ⟨fun a o e hn _=>⟨⟨o,k a o e,.refl o⟩,hn⟩,hs,hg,ho⟩
end Mine
set_option Elab.async false
namespace Mine
open PySem PyProof.Rows
noncomputable def Imm (o:Obj):Prop:=
 (o.cls=.type "tuple" /\ ∃vs n,o.data=.seq vs n)\/(o.cls=.type "range" /\ ∃vs,o.data=.fields vs)\/(∃C,o.cls=.ref C/\∃vs,o.data=.fields vs)
theorem Imm.not_dict {o:Obj} (x:Imm o):∀es n,o.data≠.dict es n:=fun es n e=>by
 rcases x with ⟨_,vs,m,h⟩ | ⟨_,vs,h⟩ | ⟨_,_,vs,h⟩ <;> rw [h] at e <;> cases e
theorem Imm.not_cell {o:Obj} (x:Imm o):∀v,o.data≠.cell v:=fun v e=>by
 rcases x with ⟨_,vs,m,h⟩ | ⟨_,vs,h⟩ | ⟨_,_,vs,h⟩ <;> rw [h] at e <;> cases e
theorem Imm.not_plain {o:Obj} (x:Imm o):o.data≠.plain:=fun e=>by
 rcases x with ⟨_,vs,m,h⟩ | ⟨_,vs,h⟩ | ⟨_,_,vs,h⟩ <;> rw [h] at e <;> cases e
theorem Imm.not_type {o:Obj} {T:String} (x:Imm o) (h1:T ≠ "tuple") (h2:T ≠ "range"):o.cls≠.type T:=fun e=>by
 rcases x with ⟨h,_⟩ | ⟨h,_⟩ | ⟨_,h,_⟩ <;> rw [h] at e
 ·exact h1 (Value.type.inj e).symm
 ·exact h2 (Value.type.inj e).symm
 ·cases e
noncomputable def KeepI (o o':Obj):Prop:=o'=o\/∃C us us',o.cls=.ref C/\o'.cls=.ref C/\o.data=.fields us/\o'.data=.fields us'/\∀i,i≠1->us'[i]?=us[i]?
theorem KeepI.refl (o:Obj):KeepI o o:=Or.inl rfl
theorem KeepI.trans {o o' o'':Obj} (x:KeepI o o') (y:KeepI o' o''):KeepI o o'':=by
 rcases x with rfl | ⟨C,us,us',c,c',d,d',k⟩
 ·exact y
 ·rcases y with rfl | ⟨C2,vs,vs',e,e',f,f',k'⟩
  ·exact Or.inr ⟨C,us,us',c,c',d,d',k⟩
  ·rw [c'] at e;cases e
   rw [d'] at f;cases f
   exact Or.inr ⟨C,us,vs',c,e',d,f',fun i hi=>(k' i hi).trans (k i hi)⟩
theorem KeepI.imm {o o':Obj} (x:KeepI o o') (i:Imm o):Imm o':=by
 rcases x with rfl | ⟨C,us,us',c,c',d,d',k⟩
 ·exact i
 ·exact Or.inr (Or.inr ⟨C,c',us',d'⟩)
theorem KeepI.tup {o o':Obj} {T:String} (x:KeepI o o') (c:o.cls=.type T):o'=o:=by
 rcases x with rfl | ⟨C,us,us',e,_⟩
 ·rfl
 ·rw [e] at c;cases c
noncomputable def ImmK (h h':Heap):Prop:=∀a o,h.get? a=some o->Imm o->∃o',h'.get? a=some o'/\KeepI o o'
theorem ImmK.refl (h:Heap):ImmK h h:=fun _ o e _=>⟨o,e,.refl o⟩
theorem ImmK.trans {h h' h'':Heap} (x:ImmK h h') (y:ImmK h' h''):ImmK h h'':=fun a o e i=>by
 obtain ⟨o',e',k⟩:=x a o e i
 obtain ⟨o'',e'',k'⟩:=y a o' e' (k.imm i)
 exact ⟨o'',e'',k.trans k'⟩
theorem ImmK.grow {h h':Heap} (k:∀a o,h.get? a=some o->h'.get? a=some o):ImmK h h':=fun a o e _=>⟨o,k a o e,.refl o⟩
theorem ImmK.but {h h':Heap} {b:Addr} (hs:Heap.ExtBut b h h') (hb:∀o,h.get? b=some o->¬Imm o):ImmK h h':=fun a o e i=>by
 by_cases q:a=b
 ·subst q;exact absurd i (hb o e)
 ·exact ⟨o,hs a o q e,.refl o⟩
mutual
theorem Rep.pres {B:Bs} {h h':Heap} (k:ImmK h h'):∀{d:D} {v:Value},Rep B h d v->Rep B h' d v
 | .none,_,x=>by simpa only [Rep] using x
 | .bool _,_,x=>by simpa only [Rep] using x
 | .int _,_,x=>by simpa only [Rep] using x
 | .str _,_,x=>by simpa only [Rep] using x
 | .tup l,_,x=>by
  simp only [Rep] at x ⊢
  obtain ⟨a,vs,n,e,g,hz,r⟩:=x
  obtain ⟨o',g',q⟩:=k a _ g (Or.inl ⟨rfl,vs,n,rfl⟩)
  rw [q.tup rfl] at g'
  exact ⟨a,vs,n,e,g',hz,RepL.pres k r⟩
 | .ref _,_,x=>by simpa only [Rep] using x
 | .scr,_,x=>by simpa only [Rep] using x
 | .exc _ _,_,x=>by
  simp only [Rep] at x ⊢
  obtain ⟨e,o,vs,C,g,c,c',hd⟩:=x
  obtain ⟨o',g',q⟩:=k _ o g (Or.inr (Or.inr ⟨C,c,vs,hd⟩))
  rcases q with rfl | ⟨C',us,us',q1,q2,q3,q4,_⟩
  ·exact ⟨e,o',vs,C,g',c,c',hd⟩
  ·rw [c] at q1;cases q1
   exact ⟨e,o',us',C,g',q2,c',q4⟩
 | .cls _,_,x=>by simpa only [Rep] using x
 | .rng _ _,_,x=>by
  simp only [Rep] at x ⊢
  obtain ⟨r,t,u,q,e,g⟩:=x
  obtain ⟨o',g',q'⟩:=k _ _ g (Or.inr (Or.inl ⟨rfl,_,rfl⟩))
  rw [q'.tup rfl] at g'
  exact ⟨r,t,u,q,e,g'⟩
theorem RepL.pres {B:Bs} {h h':Heap} (k:ImmK h h'):∀{ds:List D} {vs:List Value},RepL B h ds vs->RepL B h' ds vs
 | [],_,x=>by simpa only [RepL] using x
 | _::_,_,x=>by
  simp only [RepL] at x ⊢
  obtain ⟨v,r,e,y,z⟩:=x
  exact ⟨v,r,e,Rep.pres k y,RepL.pres k z⟩
end
noncomputable def told:Str:=Str.ofString "told"
inductive RoAt (B:Bs) (H:Hp) (h:Heap) (a d:Addr) (t:Option Addr):Prop
 | mk (o:Obj) (C:Addr) (g:h.get? a=some o) (c:o.cls=.ref C) (r:B.rdr=.ref C) (dc:o.dict=some d) (dt:o.data=.plain) (ne:d≠a) (x:H d=some (.aux a)) (n:h.Ns1 d (fun x=>if x=told then t.map Value.ref else none))
theorem RoAt.aux {B:Bs} {H:Hp} {h:Heap} {a d:Addr} {t:Option Addr} (x:RoAt B H h a d t)   : H d=some (.aux a):=by obtain ⟨_,_,_,_,_,_,_,_,q,_⟩:=x;exact q
noncomputable def RepO (B:Bs) (H:Hp) (h:Heap) (a:Addr):HObj->Prop
 | .list l=>∃vs n,IsL h a vs n/\vs.size<=SZ/\RepL B h l vs.toList
 | .robj d t=>RoAt B H h a d t
 | .aux _=>∃o es n,h.get? a=some o/\o.data=.dict es n
theorem RepO.not_imm {B:Bs} {H:Hp} {h:Heap} {a:Addr} {ob:HObj} {o:Obj} (x:RepO B H h a ob) (e:h.get? a=some o):¬Imm o:=fun i=>by
 cases ob with
 | list l=>
  obtain ⟨vs,n,e',_⟩:=x
  obtain rfl:=Option.some.inj (e.symm.trans e')
  exact i.not_type (by decide) (by decide) rfl
 | robj d t=>
  obtain ⟨o',C,e',c,r,dc,dt,_⟩:=(x:RoAt B H h a d t)
  rw [e] at e';cases e'
  exact i.not_plain dt
 | aux _=>
  obtain ⟨o',es,n,e',c⟩:=x
  rw [e] at e';cases e'
  exact i.not_dict es n c
noncomputable def ConcH (B:Bs) (H:Hp) (h:Heap):Prop:=∀a o,H a=some o->RepO B H h a o/\B.base.get? a=none
theorem ConcH.none_of_imm {B:Bs} {H:Hp} {h:Heap} (C:ConcH B H h) {a:Addr} {o:Obj} (e:h.get? a=some o) (i:Imm o):H a=none:=by
 cases q:H a with
 | none=>rfl
 | some ob=>exact absurd i ((C a ob q).1.not_imm e)
theorem ConcH.lt {B:Bs} {H:Hp} {h:Heap} (C:ConcH B H h) {a:Addr} {o:HObj} (e:H a=some o):a < h.objs.size:=by
 have x:=(C a o e).1
 cases o with
 | list l=>obtain ⟨vs,n,e',_⟩:=x;exact Heap.lt_size e'
 | robj d t=>obtain ⟨o',C,e',_⟩:=(x:RoAt B H h a d t);exact Heap.lt_size e'
 | aux _=>obtain ⟨o',es,n,e',_⟩:=x;exact Heap.lt_size e'
theorem ConcH.fresh {B:Bs} {H:Hp} {h:Heap} (C:ConcH B H h):H h.objs.size=none:=by
 cases q:H h.objs.size with
 | none=>rfl
 | some ob=>exact absurd (C.lt q) (Nat.lt_irrefl _)
theorem ConcH.none_base {B:Bs} {H:Hp} {h:Heap} (C:ConcH B H h) {a:Addr} {o:Obj} (e:B.base.get? a=some o):H a=none:=by
 cases q:H a with
 | none=>rfl
 | some ob=>rw [(C a ob q).2] at e;cases e
theorem RepO.pres {B:Bs} {H H':Hp} {h h':Heap} {a:Addr} {ob:HObj} (k:ImmK h h') (ka:∀o,h.get? a=some o->h'.get? a=some o)
  (kd:∀d t,ob=.robj d t->H' d=some (.aux a)/\∀o,h.get? d=some o->h'.get? d=some o) (x:RepO B H h a ob):RepO B H' h' a ob:=by
 cases ob with
 | list l=>obtain ⟨vs,n,e,hz,r⟩:=x;exact ⟨vs,n,ka _ e,hz,r.pres k⟩
 | robj d t=>
  obtain ⟨o,C,e,c,c1,c2,c3,c4,c5,⟨o7,es7,ep7,e7,r7⟩⟩:=(x:RoAt B H h a d t)
  obtain ⟨k1,k2⟩:=kd d t rfl
  exact RoAt.mk o C (ka o e) c c1 c2 c3 c4 k1 ⟨o7,es7,ep7,k2 o7 e7,r7⟩
 | aux _=>obtain ⟨o,es,n,e,c⟩:=x;exact ⟨o,es,n,ka o e,c⟩
theorem ConcH.pres {B:Bs} {H:Hp} {h h':Heap} (C:ConcH B H h) (k:ImmK h h') (kh:∀a ob o,H a=some ob->h.get? a=some o->h'.get? a=some o):ConcH B H h':=fun a ob e=>
 ⟨(C a ob e).1.pres k (fun o g=>kh a ob o e g) (fun d t q=>by
  subst q
  have hd:H d=some (.aux a):=RoAt.aux (C a _ e).1
  exact ⟨hd,fun o g=>kh d _ o hd g⟩),(C a ob e).2⟩
theorem ConcH.grow {B:Bs} {H:Hp} {h h':Heap} (C:ConcH B H h) (k:∀a o,h.get? a=some o->h'.get? a=some o):ConcH B H h':=
 C.pres (.grow k) fun a _ o _ g=>k a o g
theorem ImmK.of_keep {B:Bs} {own:Addr->Prop} {H H':Hp} {s s':Shared} (C:ConcH B H s.heap) (K:Keep own H s H' s') (ho:∀a o,own a->s.heap.get? a=some o->¬Imm o):ImmK s.heap s'.heap:=fun a o e i=>by
 obtain ⟨⟨o',e',k⟩,_⟩:=K.obj a o e (C.none_of_imm e i) fun q=>ho a o q e i
 rw [k.eq i.not_dict] at e';exact ⟨o,e',.refl o⟩
theorem Ns.keepO {h h':Heap} {L:Addr} {m:Str->Option Value} (x:h.Ns L m) (k:∀o,h.get? L=some o->∃o',h'.get? L=some o'/\KeepO o o'):h'.Ns L m:=by
 obtain ⟨o,es,ep,e,hd,r⟩:=x
 obtain ⟨o',e',q⟩:=k o e
 exact ⟨o',es,ep,e',q.data.trans hd,r⟩
noncomputable def ix (vs:List Str) (x:Str):Option Nat:=vs.findIdx? fun y=>decide (y=x)
theorem ix_get {vs:List Str} {x:Str} {i:Nat} (h:ix vs x=some i):vs[i]?=some x:=by
 unfold ix at h
 obtain ⟨hi,hp,_⟩:=List.findIdx?_eq_some_iff_getElem.mp h
 rw [List.getElem?_eq_getElem hi]
 simpa using hp
theorem ix_inj {vs:List Str} {x y:Str} {i:Nat} (h:ix vs x=some i) (h':ix vs y=some i):x=y:=by
 have a:=ix_get h;have b:=ix_get h'
 rw [a] at b;exact Option.some.inj b
noncomputable abbrev Loc:=List (Option D)
noncomputable def own (env:Env):Addr->Prop:=fun a=>a=env.locals\/∃x,env.cells.lookup x=some a
structure FrOk (B:Bs) (env:Env) (vs:List Str) (loc:Loc) (H:Hp) (h:Heap):Prop where
 kind:env.scope.kind=.function
 glob:env.globals=mainGlobals
 blt:env.builtins=builtinsNs
 ns:∃m,h.Ns env.locals m/\∀x i d,ix vs x=some i->loc[i]?=some (some d)->env.kindOf x=some .local->∃v,m x=some v/\Rep B h d v
 cells:∀x,(env.kindOf x=some .cell\/env.kindOf x=some .free)->∃c ov,env.cells.lookup x=some c/\h.IsCell c ov/\H c=none/\∀i d,ix vs x=some i->loc[i]?=some (some d)->∃v,ov=some v/\Rep B h d v
 cellsIn:∀x c,env.cells.lookup x=some c->(∃ov,h.IsCell c ov)/\H c=none
 noown:H env.locals=none
 cinj:∀x y c,env.cells.lookup x=some c->env.cells.lookup y=some c->x=y
theorem FrOk.own_not_imm {B:Bs} {env:Env} {vs:List Str} {loc:Loc} {H:Hp} {h:Heap} (F:FrOk B env vs loc H h):∀a o,own env a->h.get? a=some o->¬Imm o:=by
 rintro a o (rfl | ⟨x,hx⟩) e i
 ·obtain ⟨m,⟨o',es,ep,e',hd,_⟩,_⟩:=F.ns
  rw [e] at e';cases e';exact i.not_dict es ep hd
 ·obtain ⟨⟨ov,o',e',hd⟩,_⟩:=F.cellsIn x a hx
  rw [e] at e';cases e';exact i.not_cell ov hd
theorem FrOk.pres {B:Bs} {env:Env} {vs:List Str} {loc:Loc} {H H':Hp} {h h':Heap} (F:FrOk B env vs loc H h) (k:ImmK h h')
  (ko:∀a o,own env a->h.get? a=some o->H a=none->(∃o',h'.get? a=some o'/\KeepO o o')/\H' a=none):FrOk B env vs loc H' h' where
 kind:=F.kind
 glob:=F.glob
 blt:=F.blt
 ns:=by
  obtain ⟨m,hn,hm⟩:=F.ns
  refine ⟨m,Ns.keepO hn fun o e=>(ko _ o (Or.inl rfl) e F.noown).1,fun x i d h1 h2 h3=>?_⟩
  obtain ⟨v,e,r⟩:=hm x i d h1 h2 h3
  exact ⟨v,e,r.pres k⟩
 cells:=fun x hx=>by
  obtain ⟨c,ov,hc,⟨o,e,hd⟩,hn,hv⟩:=F.cells x hx
  obtain ⟨⟨o',e',q⟩,hn'⟩:=ko c o (Or.inr ⟨x,hc⟩) e hn
  refine ⟨c,ov,hc,⟨o',e',q.data.trans hd⟩,hn',fun i d h1 h2=>?_⟩
  obtain ⟨v,e,r⟩:=hv i d h1 h2
  exact ⟨v,e,r.pres k⟩
 cellsIn:=fun x c hx=>by
  obtain ⟨⟨ov,o,e,hd⟩,hn⟩:=F.cellsIn x c hx
  obtain ⟨⟨o',e',q⟩,hn'⟩:=ko c o (Or.inr ⟨x,hx⟩) e hn
  exact ⟨⟨ov,o',e',q.data.trans hd⟩,hn'⟩
 noown:=by
  obtain ⟨m,⟨o,es,ep,e,hd,_⟩,_⟩:=F.ns
  exact (ko _ o (Or.inl rfl) e F.noown).2
 cinj:=F.cinj
theorem FrOk.keep {B:Bs} {env:Env} {vs:List Str} {loc:Loc} {H H':Hp} {s s':Shared} (F:FrOk B env vs loc H s.heap) (C:ConcH B H s.heap) (K:Keep noOwn H s H' s'):FrOk B env vs loc H' s'.heap:=
 F.pres (ImmK.of_keep C K fun _ _ q=>q.elim) fun a o _ e hn=>K.obj a o e hn fun q=>q
noncomputable def Ctx2 (h:Heap) (a:Addr) (v:Value):Prop:=∃o C vs,h.get? a=some o/\o.cls=.ref C/\o.data=.fields vs/\vs[2]?=some v
noncomputable def Chain (h:Heap):List Addr->Prop
 | []=>True
 | [a]=>Ctx2 h a .none
 | a::b::r=>Ctx2 h a (.ref b)/\Chain h (b::r)
theorem Ctx2.pres {h h':Heap} {a:Addr} {v:Value} (k:ImmK h h') (x:Ctx2 h a v):Ctx2 h' a v:=by
 obtain ⟨o,C,vs,e,c,hd,hv⟩:=x
 obtain ⟨o',g',q⟩:=k a o e (Or.inr (Or.inr ⟨C,c,vs,hd⟩))
 rcases q with rfl | ⟨C',us,us',q1,q2,q3,q4,q5⟩
 ·exact ⟨o',C,vs,g',c,hd,hv⟩
 ·rw [hd] at q3;cases q3
  exact ⟨o',C',us',g',q2,q4,(q5 2 (by decide)).trans hv⟩
theorem Chain.pres {h h':Heap} (k:ImmK h h'):∀{l:List Addr},Chain h l->Chain h' l
 | [],_=>trivial
 | [_],x=>Ctx2.pres k x
 | _::_::_,⟨x,y⟩=>⟨Ctx2.pres k x,Chain.pres k y⟩
noncomputable def HandOk (v:Option Value) (h:Heap):Prop:=∃l:List Addr,v=l.head?.map Value.ref/\Chain h l
theorem HandOk.pres {v:Option Value} {h h':Heap} (k:ImmK h h') (x:HandOk v h):HandOk v h':=let ⟨l,e,c⟩:=x;⟨l,e,c.pres k⟩
noncomputable def FramesOk (B:Bs) (l:List Env) (H:Hp) (h:Heap):Prop:=
 ∀e∈l,e.scope.kind≠.module/\∃L o es m,e.frame=some L/\B.base.get? L=none/\H L=none/\h.get? L=some o/\o.data=.dict es m
structure AOk (B:Bs) (A:Around) (n:Nat) (H:Hp) (h:Heap):Prop where
 depth:A.depth+n<=990
 units:A.units+10*n<=9000
 frames:∃l,A.frames=some l/\FramesOk B l H h
 guards:A.guards=some []
 hand:HandOk A.handled h
noncomputable def DictK (H:Hp) (h:Heap) (H':Hp) (h':Heap):Prop:=∀a o es n,h.get? a=some o->o.data=.dict es n->H a=none->∃o' es' n',h'.get? a=some o'/\o'.data=.dict es' n'/\H' a=none
theorem DictK.refl (H:Hp) (h:Heap):DictK H h H h:=fun _ o es n e d x=>⟨o,es,n,e,d,x⟩
theorem DictK.trans {H H' H'':Hp} {h h' h'':Heap} (x:DictK H h H' h') (y:DictK H' h' H'' h''):DictK H h H'' h'':=fun a o es n e d q=>by
 obtain ⟨o',es',n',e',d',q'⟩:=x a o es n e d q
 exact y a o' es' n' e' d' q'
theorem DictK.grow {H:Hp} {h h':Heap} (k:∀a o,h.get? a=some o->h'.get? a=some o):DictK H h H h':=fun a o es n e d q=>⟨o,es,n,k a o e,d,q⟩
theorem DictK.of_keep {H H':Hp} {s s':Shared} (K:Keep noOwn H s H' s'):DictK H s.heap H' s'.heap:=fun a o es n e d q=>by
 obtain ⟨⟨o',e',k⟩,q'⟩:=K.obj a o e q fun x=>x
 exact ⟨o',es,n,e',k.data.trans d,q'⟩
theorem AOk.pres {B:Bs} {A:Around} {n:Nat} {H H':Hp} {h h':Heap} (x:AOk B A n H h) (k:ImmK h h') (kd:DictK H h H' h'):AOk B A n H' h' where
 depth:=x.depth
 units:=x.units
 frames:=by
  obtain ⟨l,e,f⟩:=x.frames
  refine ⟨l,e,fun e he=>?_⟩
  obtain ⟨h1,L,o,es,m,h2,h3,h4,h5,h6⟩:=f e he
  obtain ⟨o',es',m',q1,q2,q3⟩:=kd L o es m h5 h6 h4
  exact ⟨h1,L,o',es',m',h2,h3,q3,q1,q2⟩
 guards:=x.guards
 hand:=x.hand.pres k
theorem AOk.keep {B:Bs} {A:Around} {n:Nat} {H H':Hp} {s s':Shared} (x:AOk B A n H s.heap) (C:ConcH B H s.heap) (K:Keep noOwn H s H' s'):AOk B A n H' s'.heap:=
 x.pres (ImmK.of_keep C K fun _ _ q=>q.elim) (DictK.of_keep K)
theorem AOk.le {B:Bs} {A:Around} {n m:Nat} {H:Hp} {h:Heap} (x:AOk B A n H h) (hm:m<=n):AOk B A m H h:=
 ⟨by have:=x.depth;exact jl2 (jc3 _ _ _) (jA j0 j2) (jK 990) j1 j2 (jA j0 j1) (jK 990) rfl this hm,by have:=x.units;exact jl2 (jc3 _ _ _) (jA j0 (jM 10 j2)) (jK 9000) (jM 10 j1) (jM 10 j2) (jA j0 (jM 10 j1)) (jK 9000) rfl this (jm _ 10 j1 j2 hm),x.frames,x.guards,x.hand⟩
theorem AOk.in1 {B:Bs} {A:Around} {n:Nat} {H:Hp} {h:Heap} (x:AOk B A (n+1) H h):AOk B A.in1 n H h:=
 ⟨by have:=x.depth;simp;exact jl1 (jc2 _ _) (jA j0 (jA j1 (jK 1))) (jK 990) (jA j0 j1) (jK 990) rfl this,by have:=x.units;simp;exact jl1 (jc2 _ _) (jA j0 (jM 10 (jA j1 (jK 1)))) (jK 9000) (jA (jA j0 (jK 1)) (jM 10 j1)) (jK 9000) rfl this,x.frames,x.guards,x.hand⟩
structure Conc (B:Bs) (env:Env) (vs:List Str) (loc:Loc) (H:Hp) (s:Shared):Prop where
 fr:FrOk B env vs loc H s.heap
 hp:ConcH B H s.heap
 base:B.base.StaysIn s.heap
theorem StaysIn.keep {B:Bs} {own:Addr->Prop} {H H':Hp} {s s':Shared} (b:B.base.StaysIn s.heap) (k:∀a o,B.base.get? a=some o->s.heap.get? a=some o->s'.heap.get? a=some o):B.base.StaysIn s'.heap:=
 fun a o e=>k a o e (b a o e)
end Mine
set_option Elab.async false
namespace Mine
open PySem
inductive Op where | add | sub | mul | fdiv | mod
inductive Cm where | eq | ne | lt | le | gt | ge | is | isnot | inn | notin
inductive BI where | len | isinst | range1 | range2 | min2 | int | str | list
inductive Mt where | append | pop | clear | join
set_option genSizeOf false
set_option genCtorIdx false
set_option genInjectivity false
inductive Ex where
 | lit (d:D)
 | var (i:Nat)
 | bin (o:Op) (a b:Ex)
 | not (a:Ex)
 | neg (a:Ex)
 | cmp (o:Cm) (a b:Ex)
 | cmp2 (o p:Cm) (a b c:Ex)
 | and (a b:Ex)
 | or (a b:Ex)
 | item (a i:Ex)
 | slice (a lo hi:Ex)
 | tup (l:List Ex)
 | list (l:List Ex)
 | call (f:Nat) (l:List Ex)
 | bi (b:BI) (l:List Ex)
 | meth (m:Mt) (o:Ex) (l:List Ex)
 | comp (e it:Ex)
 | compIf (e it c:Ex)
 | inTab (t:List (List Nat×Int)) (neg:Bool) (e:Ex)
 | itemTab (t:List (List Nat×Int)) (e:Ex)
 | zipl (a b:Ex)
 | told (o:Ex)
 | mcall (f:Nat) (o:Ex) (l:List Ex)
 | new
 deriving Inhabited
mutual
inductive St where
 | assign (i:Nat) (e:Ex)
 | assignT (is:List Nat) (e:Ex)
 | setItem (a i e:Ex)
 | setTold (o e:Ex)
 | expr (e:Ex)
 | ret (e:Ex)
 | ite (c:Ex) (a b:List St)
 | forS (i:Nat) (it:Ex) (body:List St)
 | whileS (c:Ex) (body:List St)
 | brk
 | cont
 | raise (c:Nat)
 | tryS (body:List St) (hs:List Hd)
inductive Hd where
 | mk (c:Nat) (v:Option Nat) (b:List St)
end
set_option genInjectivity true
set_option genCtorIdx true
inductive Fl where
 | next | brk | cont
 | ret (d:D)
noncomputable abbrev CallT:=Nat->List D->Hp->(D->Hp->Prop)->(Nat->Hp->Prop)->Prop
noncomputable def lget:Loc->Nat->Option D
 | [],_=>none
 | d::_,0=>d
 | _::r,n+1=>lget r n
inductive OD (o:Option D) (H:Hp) (Q:D->Hp->Prop):Prop
 | mk (d:D) (h:o=some d) (q:Q d H)
inductive OB (o:Option Bool) (H:Hp) (Q:D->Hp->Prop):Prop
 | mk (r:Bool) (h:o=some r) (q:Q (.bool r) H)
inductive OC (o:Option Bool) (k:Bool->Prop):Prop
 | mk (r:Bool) (h:o=some r) (q:k r)
inductive KB (x:D) (k:Bool->Prop):Prop
 | mk (r:Bool) (h:x=.bool r) (q:k r)
inductive OL (o:Option (List D)) (k:List D->Prop):Prop
 | mk (all:List D) (h:o=some all) (q:k all)
inductive HL (o:Option HObj) (k:List D->Prop):Prop
 | mk (l:List D) (h:o=some (.list l)) (q:k l)
inductive RO (o:Option HObj) (k:Addr->Prop):Prop
 | mk (d:Addr) (t:Addr) (h:o=some (.robj d (some t))) (q:k t)
inductive RA (o:Option HObj) (k:Addr->Prop):Prop
 | mk (d:Addr) (t:Option Addr) (h:o=some (.robj d t)) (q:k d)
noncomputable def MulOk (a b:Int):Prop:=a.natAbs < 2 ^ 64\/b.natAbs < 2 ^ 64
noncomputable def okF:Nat->D->Bool
 | _,.none=>true
 | _,.bool _=>true
 | _,.int _=>true
 | _,.str _=>true
 | n+1,.tup l=>l.all (okF n)
 | _,_=>false
mutual
noncomputable def eqv0:D->D->Bool
 | .none,y=>match y with | .none=>true | _=>false
 | .bool a,y=>match y with | .bool b=>a==b | .int j=>(if a then 1 else 0)==j | _=>false
 | .int i,y=>match y with | .bool b=>i==(if b then 1 else 0) | .int b=>i==b | _=>false
 | .str a,y=>match y with | .str b=>a==b | _=>false
 | .tup a,y=>match y with | .tup b=>eqvs0 a b | _=>false
 | .ref _,_=>false
 | .scr,_=>false
 | .exc _ _,_=>false
 | .cls _,_=>false
 | .rng _ _,_=>false
noncomputable def eqvs0:List D->List D->Bool
 | [],y=>match y with | []=>true | _::_=>false
 | a::as,y=>match y with | []=>false | b::bs=>eqv0 a b&&eqvs0 as bs
end
noncomputable def eqL (p q:Option HObj):Option Bool:=match p,q with
 | some (.list l),some (.list m)=>if l.length≠m.length then some false else if l.all (okF 8)&&m.all (okF 8) then some (eqvs0 l m) else none
 | _,_=>none
noncomputable def isRef:D->Option Addr
 | .ref a=>some a
 | _=>none
noncomputable def eqD (H:Hp) (x y:D):Option Bool:=match isRef x with
 | some a=>match isRef y with
  | some b=>eqL (H a) (H b)
  | none=>none
 | none=>if okF 8 x&&okF 8 y then some (eqv0 x y) else none
noncomputable def memD (x:D) (l:List D):Option Bool:=if okF 8 x&&l.all (okF 8) then some (l.any fun y=>eqv0 y x) else none
noncomputable def ki (k:Int->Prop):D->Prop
 | .int i=>k i
 | _=>False
noncomputable def ks (k:List Nat->Prop):D->Prop
 | .str i=>k i
 | _=>False
noncomputable def kr (k:Addr->Prop):D->Prop
 | .ref i=>k i
 | _=>False
noncomputable def kt (k:List D->Prop):D->Prop
 | .tup i=>k i
 | _=>False
noncomputable def kc (k:Nat->Prop):D->Prop
 | .cls i=>k i
 | _=>False
noncomputable def k1 (k:D->Prop):List D->Prop
 | [d]=>k d
 | _=>False
noncomputable def k2 (k:D->D->Prop):List D->Prop
 | [d,e]=>k d e
 | _=>False
section
variable {P:D->Prop} {d:D}
@[elab_as_elim] theorem inv_ki {k:Int->Prop} (h:ki k d) (c:∀i,k i->P (.int i)):P d:=by cases d <;> first | exact c _ h | exact False.elim h
@[elab_as_elim] theorem inv_ks {k:List Nat->Prop} (h:ks k d) (c:∀i,k i->P (.str i)):P d:=by cases d <;> first | exact c _ h | exact False.elim h
@[elab_as_elim] theorem inv_kr {k:Addr->Prop} (h:kr k d) (c:∀i,k i->P (.ref i)):P d:=by cases d <;> first | exact c _ h | exact False.elim h
@[elab_as_elim] theorem inv_kt {k:List D->Prop} (h:kt k d) (c:∀i,k i->P (.tup i)):P d:=by cases d <;> first | exact c _ h | exact False.elim h
@[elab_as_elim] theorem inv_kc {k:Nat->Prop} (h:kc k d) (c:∀i,k i->P (.cls i)):P d:=by cases d <;> first | exact c _ h | exact False.elim h
@[elab_as_elim] theorem inv_k1 {P:List D->Prop} {ds:List D} {k:D->Prop} (h:k1 k ds) (c:∀d,k d->P [d]):P ds:=by
 rcases ds with _ | ⟨d,_ | ⟨_,_⟩⟩ <;> first | exact c _ h | exact False.elim h
@[elab_as_elim] theorem inv_k2 {P:List D->Prop} {ds:List D} {k:D->D->Prop} (h:k2 k ds) (c:∀d e,k d e->P [d,e]):P ds:=by
 rcases ds with _ | ⟨d,_ | ⟨e,_ | ⟨_,_⟩⟩⟩ <;> first | exact c _ _ h | exact False.elim h
end
theorem ref_of {d:D} {k:Addr->Prop} (h:kr k d):∃a,d=.ref a/\k a:=inv_kr h fun a h=>⟨a,rfl,h⟩
theorem str_of {d:D} {k:List Nat->Prop} (h:ks k d):∃a,d=.str a/\k a:=inv_ks h fun a h=>⟨a,rfl,h⟩
noncomputable def cmpI (f:Int->Int->Bool) (x y:D):Option Bool:=match x with
 | .int a=>match y with
  | .int b=>some (f a b)
  | _=>none
 | _=>none
noncomputable def isN:D->Bool
 | .none=>true
 | _=>false
noncomputable def cmpN (y:D) (b:Bool):Option Bool:=match y with
 | .none=>some b
 | _=>none
noncomputable def vIn (x y:D) (H:Hp):Option Bool:=match y with
 | .str l=>match x with
  | .str m=>match m with
   | [c]=>some (l.contains c)
   | m=>if m.all l.contains then none else some false
  | _=>none
 | .tup l=>memD x l
 | .ref a=>match H a with
  | some (.list l)=>memD x l
  | _=>none
 | _=>none
noncomputable def vCmp (o:Cm) (x y:D) (H:Hp):Option Bool:=
 match o with
 | .eq=>eqD H x y
 | .ne=>(eqD H x y).map fun b=>!b
 | .lt=>cmpI (fun a b=>decide (a < b)) x y
 | .le=>cmpI (fun a b=>decide (a<=b)) x y
 | .gt=>cmpI (fun a b=>decide (a > b)) x y
 | .ge=>cmpI (fun a b=>decide (a ≥ b)) x y
 | .is=>cmpN y (isN x)
 | .isnot=>cmpN y (!isN x)
 | .inn=>vIn x y H
 | .notin=>(vIn x y H).map fun b=>!b
noncomputable def vAdd (x y:D) (H:Hp) (Q:D->Hp->Prop):Prop:=match x with
 | .int a=>ki (fun b=>Q (.int (a+b)) H) y
 | .str a=>ks (fun b=>a.length+b.length<=SZ/\Q (.str (a++b)) H) y
 | .ref a=>kr (fun b=>∃l m,H a=some (.list l)/\H b=some (.list m)/\l.length+m.length<=SZ /\
   ∀c,H c=none->Q (.ref c) (H.set c (.list (l++m)))) y
 | _=>False
noncomputable def vMul (x y:D) (H:Hp) (Q:D->Hp->Prop):Prop:=match x with
 | .int a=>ki (fun b=>MulOk a b/\Q (.int (a*b)) H) y
 | .ref a=>ki (fun k=>∃l,H a=some (.list l)/\l.length*k.toNat<=SZ/\0<=k/\k < 1000000 /\
   ∀c,H c=none->Q (.ref c) (H.set c (.list (List.replicate k.toNat l).flatten))) y
 | .str a=>ki (fun k=>a.length*k.toNat<=SZ/\0<=k/\k < 1000000/\Q (.str (List.replicate k.toNat a).flatten) H) y
 | _=>False
noncomputable def vBin (o:Op) (x y:D) (H:Hp) (Q:D->Hp->Prop):Prop:=
 match o with
 | .add=>vAdd x y H Q
 | .sub=>ki (fun a=>ki (fun b=>Q (.int (a - b)) H) y) x
 | .mul=>vMul x y H Q
 | .fdiv=>ki (fun a=>ki (fun b=>0 < b/\b < 2 ^ 64/\Q (.int (a / b)) H) y) x
 | .mod=>ki (fun a=>ki (fun b=>0 < b/\Q (.int (a % b)) H) y) x
noncomputable def pix (n:Nat) (i:Int):Option Nat:=if 0<=i then (if i < n then some i.toNat else none) else if 0<=i+n then some (i+n).toNat else none
inductive IT (l:List D) (i:Int) (H:Hp) (Q:D->Hp->Prop):Prop
 | mk (j:Nat) (d:D) (h1:pix l.length i=some j) (h2:l[j]?=some d) (q:Q d H)
inductive IS (l:List Nat) (i:Int) (H:Hp) (Q:D->Hp->Prop):Prop
 | mk (j:Nat) (c:Nat) (h1:pix l.length i=some j) (h2:l[j]?=some c) (q:Q (.str [c]) H)
inductive IR (a:Addr) (i:Int) (H:Hp) (Q:D->Hp->Prop):Prop
 | mk (l:List D) (j:Nat) (d:D) (h:H a=some (.list l)) (h1:pix l.length i=some j) (h2:l[j]?=some d) (q:Q d H)
inductive IN (B:List Int) (i:Int) (H:Hp) (Q:D->Hp->Prop):Prop
 | mk (h:0<=i) (k:Int) (h1:B[i.toNat]?=some k) (q:Q (.int k) H)
noncomputable def vItem (x i:D) (B:List Int) (H:Hp) (Q:D->Hp->Prop):Prop:=
 match x with
 | .tup l=>ki (fun i=>IT l i H Q) i
 | .str l=>ki (fun i=>IS l i H Q) i
 | .ref a=>ki (fun i=>IR a i H Q) i
 | .scr=>ki (fun i=>IN B i H Q) i
 | _=>False
noncomputable def clipAt (n:Nat) (dflt:Nat):D->Option Nat
 | .none=>some dflt
 | .int i=>some (if 0<=i then min i.toNat n else (i+n).toNat)
 | _=>none
inductive SS (l:List Nat) (lo hi:D) (H:Hp) (Q:D->Hp->Prop):Prop
 | mk (a b:Nat) (h1:clipAt l.length 0 lo=some a) (h2:clipAt l.length l.length hi=some b) (q:Q (.str ((l.take b).drop a)) H)
inductive ST (l:List D) (lo hi:D) (H:Hp) (Q:D->Hp->Prop):Prop
 | mk (a:Int) (h1:lo=.int a) (h2:hi=.none) (h3:1<=a) (h4:a<=l.length) (q:Q (.tup (l.drop a.toNat)) H)
inductive SR (r:Addr) (lo hi:D) (H:Hp) (Q:D->Hp->Prop):Prop
 | mk (l:List D) (a b:Nat) (h:H r=some (.list l)) (h1:clipAt l.length 0 lo=some a) (h2:clipAt l.length l.length hi=some b) (q:∀c,H c=none->Q (.ref c) (H.set c (.list ((l.take b).drop a))))
noncomputable def vSlice (x lo hi:D) (H:Hp) (Q:D->Hp->Prop):Prop:=
 match x with
 | .str l=>SS l lo hi H Q
 | .tup l=>ST l lo hi H Q
 | .ref r=>SR r lo hi H Q
 | _=>False
noncomputable def isI (H:Hp):D->Nat->Option Bool
 | .str _,c=>if 10<=c/\c<=14 then some (c==10) else none
 | .int _,c=>if 10<=c/\c<=14 then some (c==11) else none
 | .bool _,c=>if 10<=c/\c<=14 then some (c==11||c==12) else none
 | .none,c=>if 10<=c/\c<=14 then some false else none
 | .tup _,c=>if 10<=c/\c<=14 then some (c==13) else none
 | .ref a,c=>match H a with
  | some (.list _)=>if 10<=c/\c<=14 then some (c==14) else none
  | _=>none
 | .exc _ k,c=>if k<=6/\(c<=6\/c=15) then some (c==0||c==k||c==15) else none
 | _,_=>none
noncomputable def intsOf (a b:Int):List D:=(List.range (b - a).toNat).map fun k:Nat=>D.int (a+(k:Int))
noncomputable def iterD (H:Hp):D->Option (List D)
 | .str l=>some (l.map fun c=>.str [c])
 | .tup l=>some l
 | .ref a=>match H a with | some (.list l)=>some l | _=>none
 | .rng a b=>if -400000<=a/\a<=400000/\-400000<=b/\b<=400000 then some (intsOf a b) else none
 | _=>none
noncomputable def strsOf:List D->Option (List (List Nat))
 | []=>some []
 | .str l::r=>(strsOf r).map (l::·)
 | _::_=>none
noncomputable def joinS (sep:List Nat):List (List Nat)->List Nat
 | []=>[]
 | [x]=>x
 | x::r=>x++sep++joinS sep r
noncomputable def dig (n:Nat):List Nat:=if n < 10 then [48+n] else [48+n / 10,48+n % 10]
noncomputable def digitsVal (l:List Nat):Nat:=l.foldl (fun acc c=>acc*10+(c - 48)) 0
noncomputable def isDigits (l:List Nat):Bool:=l.all fun c=>decide (48<=c/\c<=57)
noncomputable def vLen (d:D) (ns:List Int) (H:Hp) (Q:D->Hp->Prop):Prop:=match d with
 | .str l=>Q (.int l.length) H
 | .tup l=>Q (.int l.length) H
 | .ref a=>HL (H a) fun l=>Q (.int l.length) H
 | .scr=>Q (.int ns.length) H
 | _=>False
noncomputable def vInt (d:D) (H:Hp) (Q:D->Hp->Prop):Prop:=match d with
 | .bool b=>Q (.int (if b then 1 else 0)) H
 | .str l=>1<=l.length/\l.length<=8/\isDigits l=true/\Q (.int (digitsVal l:Nat)) H
 | _=>False
noncomputable def vBi (b:BI) (ds:List D) (ns:List Int) (H:Hp) (Q:D->Hp->Prop):Prop:=
 match b with
 | .len=>k1 (fun d=>vLen d ns H Q) ds
 | .isinst=>k2 (fun x y=>kc (fun c=>OB (isI H x c) H Q) y) ds
 | .range1=>k1 (ki fun b=>Q (.rng 0 b) H) ds
 | .range2=>k2 (fun x y=>ki (fun a=>ki (fun b=>Q (.rng a b) H) y) x) ds
 | .min2=>k2 (fun x y=>ki (fun a=>ki (fun b=>Q (.int (min a b)) H) y) x) ds
 | .int=>k1 (fun d=>vInt d H Q) ds
 | .str=>k1 (ki fun i=>0<=i/\i < 100/\Q (.str (dig i.toNat)) H) ds
 | .list=>k1 (kr fun a=>HL (H a) fun l=>∀c,H c=none->Q (.ref c) (H.set c (.list l))) ds
noncomputable def k0 (P:Prop):List D->Prop
 | []=>P
 | _=>False
@[elab_as_elim] theorem inv_k0 {P:List D->Prop} {ds:List D} {k:Prop} (h:k0 k ds) (c:k->P []):P ds:=by
 cases ds <;> first | exact c h | exact False.elim h
inductive MA (a:Addr) (x:D) (H:Hp) (Q:D->Hp->Prop):Prop
 | mk (l:List D) (h:H a=some (.list l)) (h1:l.length < SZ) (q:Q .none (H.set a (.list (l++[x]))))
inductive MP (a:Addr) (H:Hp) (Q:D->Hp->Prop):Prop
 | mk (l:List D) (x:D) (h:H a=some (.list (l++[x]))) (q:Q x (H.set a (.list l)))
inductive MJ (a:Addr) (sep:List Nat) (H:Hp) (Q:D->Hp->Prop):Prop
 | mk (l:List D) (xs:List (List Nat)) (h:H a=some (.list l)) (h1:strsOf l=some xs) (h2:(xs.map fun x=>x.length+sep.length).sum<=SZ) (q:Q (.str (joinS sep xs)) H)
noncomputable def vMeth (m:Mt) (o:D) (ds:List D) (H:Hp) (Q:D->Hp->Prop):Prop:=
 match m with
 | .append=>kr (fun a=>k1 (fun x=>MA a x H Q) ds) o
 | .pop=>kr (fun a=>k0 (MP a H Q) ds) o
 | .clear=>kr (fun a=>k0 (HL (H a) fun _=>Q .none (H.set a (.list []))) ds) o
 | .join=>ks (fun sep=>k1 (kr fun a=>MJ a sep H Q) ds) o
noncomputable def mHas (m:Mt) (x:D) (H:Hp):Prop:=
 match m with
 | .join=>ks (fun _=>True) x
 | .append=>kr (fun a=>∃l,H a=some (.list l)) x
 | .pop=>kr (fun a=>∃l,H a=some (.list l)) x
 | .clear=>kr (fun a=>∃l,H a=some (.list l)) x
inductive ZP (l m:List D) (H:Hp) (Q:D->Hp->Prop):Prop
 | mk (h1:m.length=l.length) (h2:0 < l.length) (h3:l.length<=100) (q:∀c,H c=none->Q (.ref c) (H.set c (.list ((l.zip m).map fun p=>.tup [p.1,p.2]))))
noncomputable def compL (src:D) (all:List D) (f:D->Hp->(Option D->Hp->Prop)->Prop) (Q:List D->Hp->Prop):List D->List D->Hp->Prop
 | [],acc,H=>iterD H src=some all/\Q acc H
 | d::ds,acc,H=>iterD H src=some all/\f d H fun r H'=>compL src all f Q ds (match r with | some x=>acc++[x] | none=>acc) H'
noncomputable def tabGet (t:List (List Nat×Int)) (k:List Nat):Option Int:=t.lookup k
section
noncomputable abbrev KD:=D->Hp->Prop
noncomputable abbrev ED:=Hp->KD->Prop
noncomputable def bin1 (g:D->D->Hp->KD->Prop) (x:D) (Q:KD):KD:=fun y H=>g x y H Q
noncomputable def bin2 (g:D->D->Hp->KD->Prop) (b:ED) (Q:KD):KD:=fun x H=>b H (bin1 g x Q)
noncomputable def notQ (Q:KD):KD:=fun x H=>KB x fun b=>Q (.bool !b) H
noncomputable def negQ (Q:KD):KD:=fun x H=>∃i,x=.int i/\Q (.int (-i)) H
noncomputable def cmpQ (o:Cm) (x y:D) (H:Hp) (Q:KD):Prop:=OB (vCmp o x y H) H Q
noncomputable def andQ (b:ED) (Q:KD):KD:=fun x H=>KB x fun r=>if r then b H Q else Q (.bool false) H
noncomputable def orQ (b:ED) (Q:KD):KD:=fun x H=>KB x fun r=>if r then Q (.bool true) H else b H Q
noncomputable def itemQ (ns:List Int) (x y:D) (H:Hp) (Q:KD):Prop:=vItem x y ns H Q
noncomputable def slQ (lo hi:ED) (Q:KD):KD:=fun x H1=>lo H1 fun y H2=>hi H2 fun z H3=>vSlice x y z H3 Q
noncomputable def tupQ (Q:KD):List D->Hp->Prop:=fun ds H=>Q (.tup ds) H
noncomputable def listQ (Q:KD):List D->Hp->Prop:=fun ds H=>∀a,H a=none->Q (.ref a) (H.set a (.list ds))
noncomputable def callQ (c:CallT) (f:Nat) (X:Nat->Hp->Prop) (Q:KD):List D->Hp->Prop:=fun ds H=>c f ds H Q X
noncomputable def biQ (b:BI) (ns:List Int) (Q:KD):List D->Hp->Prop:=fun ds H=>vBi b ds ns H Q
noncomputable def methQ2 (m:Mt) (x:D) (Q:KD):List D->Hp->Prop:=fun ds H=>vMeth m x ds H Q
noncomputable def methQ (m:Mt) (es:Hp->(List D->Hp->Prop)->Prop) (Q:KD):KD:=fun x H=>mHas m x H/\es H (methQ2 m x Q)
noncomputable def zipQ (x y:D) (H:Hp) (Q:KD):Prop:=kt (fun l=>kt (fun m=>ZP l m H Q) y) x
noncomputable def toldQ (Q:KD):KD:=fun x H=>kr (fun a=>RO (H a) fun t=>Q (.ref t) H) x
noncomputable def mcQ2 (c:CallT) (f:Nat) (X:Nat->Hp->Prop) (a:Addr) (Q:KD):List D->Hp->Prop:=fun ds H=>c f (.ref a::ds) H Q X
noncomputable def mcQ (c:CallT) (f:Nat) (X:Nat->Hp->Prop) (es:Hp->(List D->Hp->Prop)->Prop) (Q:KD):KD:=fun x H=>kr (fun a=>RA (H a) fun _=>es H (mcQ2 c f X a Q)) x
noncomputable def consQ2 (d:D) (Q:List D->Hp->Prop):List D->Hp->Prop:=fun ds H=>Q (d::ds) H
noncomputable def consQ (es:Hp->(List D->Hp->Prop)->Prop) (Q:List D->Hp->Prop):KD:=fun d H=>es H (consQ2 d Q)
end
mutual
noncomputable def vE (ns:List Int) (c:CallT) (X:Nat->Hp->Prop):Ex->Loc->Hp->(D->Hp->Prop)->Prop
 | .lit d,_,H,Q=>Q d H
 | .var i,l,H,Q=>OD (lget l i) H Q
 | .bin o a b,l,H,Q=>vE ns c X a l H (bin2 (vBin o) (vE ns c X b l) Q)
 | .not a,l,H,Q=>vE ns c X a l H (notQ Q)
 | .neg a,l,H,Q=>vE ns c X a l H (negQ Q)
 | .cmp o a b,l,H,Q=>vE ns c X a l H (bin2 (cmpQ o) (vE ns c X b l) Q)
 | .cmp2 o p a b e,l,H,Q=>vE ns c X a l H fun x H1=>vE ns c X b l H1 fun y H2=>OC (vCmp o x y H2) fun r=>
   if r then vE ns c X e l H2 fun z H3=>OB (vCmp p y z H3) H3 Q else Q (.bool false) H2
 | .and a b,l,H,Q=>vE ns c X a l H (andQ (vE ns c X b l) Q)
 | .or a b,l,H,Q=>vE ns c X a l H (orQ (vE ns c X b l) Q)
 | .item a i,l,H,Q=>vE ns c X a l H (bin2 (itemQ ns) (vE ns c X i l) Q)
 | .slice a lo hi,l,H,Q=>vE ns c X a l H (slQ (vE ns c X lo l) (vE ns c X hi l) Q)
 | .tup es,l,H,Q=>vEs ns c X es l H (tupQ Q)
 | .list es,l,H,Q=>vEs ns c X es l H (listQ Q)
 | .call f es,l,H,Q=>vEs ns c X es l H (callQ c f X Q)
 | .bi b es,l,H,Q=>vEs ns c X es l H (biQ b ns Q)
 | .meth m o es,l,H,Q=>vE ns c X o l H (methQ m (vEs ns c X es l) Q)
 | .comp e it,l,H,Q=>vE ns c X it l H fun src H1=>OL (iterD H1 src) fun all=>
   compL src all (fun d H K=>vE ns c (fun _ _=>False) e (some d::l) H fun r H'=>K (some r) H') (listQ Q) all [] H1
 | .compIf e it t,l,H,Q=>vE ns c X it l H fun src H1=>OL (iterD H1 src) fun all=>
   compL src all (fun d H K=>vE ns c (fun _ _=>False) t (some d::l) H fun b H'=>KB b fun r=>
     if r then vE ns c (fun _ _=>False) e (some d::l) H' fun r H''=>K (some r) H'' else K none H') (listQ Q) all [] H1
 | .inTab t ng e,l,H,Q=>vE ns c X e l H fun x H1=>∃k,x=.str k/\Q (.bool ((tabGet t k).isSome != ng)) H1
 | .itemTab t e,l,H,Q=>vE ns c X e l H fun x H1=>∃k v,x=.str k/\tabGet t k=some v/\Q (.int v) H1
 | .zipl a b,l,H,Q=>vE ns c X a l H (bin2 zipQ (vE ns c X b l) Q)
 | .told o,l,H,Q=>vE ns c X o l H (toldQ Q)
 | .mcall f o es,l,H,Q=>vE ns c X o l H (mcQ c f X (vEs ns c X es l) Q)
 | .new,_,H,Q=>∀a d t,H a=none->H d=none->H t=none->d≠a->t≠a->t≠d->Q (.ref a) (((H.set t (.list [])).set d (.aux a)).set a (.robj d (some t)))
noncomputable def vEs (ns:List Int) (c:CallT) (X:Nat->Hp->Prop):List Ex->Loc->Hp->(List D->Hp->Prop)->Prop
 | [],_,H,Q=>Q [] H
 | e::es,l,H,Q=>vE ns c X e l H (consQ (vEs ns c X es l) Q)
end
noncomputable def nxQ (k:Loc->Hp->Prop) (Q:Fl->Loc->Hp->Prop):Fl->Loc->Hp->Prop:=fun fl l H=>match fl with
 | .next=>k l H
 | .cont=>k l H
 | .brk=>Q .next l H
 | .ret v=>Q (.ret v) l H
noncomputable def forL (src:D) (all:List D) (f:D->Loc->Hp->(Fl->Loc->Hp->Prop)->Prop) (Q:Fl->Loc->Hp->Prop):List D->Loc->Hp->Prop
 | [],l,H=>iterD H src=some all/\Q .next l H
 | d::ds,l,H=>iterD H src=some all/\f d l H (nxQ (fun l' H'=>forL src all f Q ds l' H') Q)
inductive Dn (I:Nat->Loc->Hp->Prop) (n:Nat) (l:Loc) (H:Hp):Prop
 | mk (m:Nat) (h:m < n) (q:I m l H)
noncomputable def wQ (I:Nat->Loc->Hp->Prop) (n:Nat) (Q:Fl->Loc->Hp->Prop):Fl->Loc->Hp->Prop:=fun fl l H=>match fl with
 | .next=>Dn I n l H
 | .cont=>Dn I n l H
 | .brk=>Q .next l H
 | .ret v=>Q (.ret v) l H
noncomputable def thenQ (k:Loc->Hp->Prop) (Q:Fl->Loc->Hp->Prop):Fl->Loc->Hp->Prop:=fun fl l H=>match fl with
 | .next=>k l H
 | .brk=>Q .brk l H
 | .cont=>Q .cont l H
 | .ret v=>Q (.ret v) l H
@[simp] noncomputable def subc (k c:Nat):Bool:=c==0||c==k
@[simp] noncomputable def setAll (l:Loc):List Nat->List D->Loc
 | i::is,d::ds=>setAll (l.set i (some d)) is ds
 | _,_=>l
noncomputable def exQ (X:Nat->Loc->Hp->Prop) (l:Loc):Nat->Hp->Prop:=fun k H=>X k l H
noncomputable def asgQ (i:Nat) (l:Loc) (Q:Fl->Loc->Hp->Prop):D->Hp->Prop:=fun d H=>Q .next (l.set i (some d)) H
noncomputable def exprQ (l:Loc) (Q:Fl->Loc->Hp->Prop):D->Hp->Prop:=fun _ H=>Q .next l H
noncomputable def rtQ (l:Loc) (Q:Fl->Loc->Hp->Prop):D->Hp->Prop:=fun d H=>Q (.ret d) l H
noncomputable def iteQ (a b:Hp->(Fl->Loc->Hp->Prop)->(Nat->Loc->Hp->Prop)->Prop) (Q:Fl->Loc->Hp->Prop) (X:Nat->Loc->Hp->Prop):D->Hp->Prop:=fun x H=>KB x fun r=>if r then a H Q X else b H Q X
noncomputable def bodyQ (i:Nat) (b:Loc->Hp->(Fl->Loc->Hp->Prop)->(Nat->Loc->Hp->Prop)->Prop) (X:Nat->Loc->Hp->Prop):D->Loc->Hp->(Fl->Loc->Hp->Prop)->Prop:=fun d l H K=>b (l.set i (some d)) H K X
noncomputable def forQ (i:Nat) (b:Loc->Hp->(Fl->Loc->Hp->Prop)->(Nat->Loc->Hp->Prop)->Prop) (Q:Fl->Loc->Hp->Prop) (X:Nat->Loc->Hp->Prop) (l:Loc):D->Hp->Prop:=fun src H=>OL (iterD H src) fun all=>forL src all (bodyQ i b X) Q all l H
noncomputable def seqQ (r:Loc->Hp->(Fl->Loc->Hp->Prop)->(Nat->Loc->Hp->Prop)->Prop) (Q:Fl->Loc->Hp->Prop) (X:Nat->Loc->Hp->Prop):Fl->Loc->Hp->Prop:=thenQ (fun l H=>r l H Q X) Q
mutual
noncomputable def vS (ns:List Int) (c:CallT):St->Loc->Hp->(Fl->Loc->Hp->Prop)->(Nat->Loc->Hp->Prop)->Prop
 | .assign i e,l,H,Q,X=>vE ns c (exQ X l) e l H (asgQ i l Q)
 | .assignT is e,l,H,Q,X=>vE ns c (exQ X l) e l H fun d H'=>∃ds,d=.tup ds/\ds.length=is.length/\Q .next (setAll l is ds) H'
 | .setItem a i e,l,H,Q,X=>vE ns c (exQ X l) e l H fun d H1=>vE ns c (exQ X l) a l H1 fun x H2=>vE ns c (exQ X l) i l H2 fun y H3=>
   ∃r k m,x=.ref r/\y=.int k/\H3 r=some (.list m)/\0<=k/\k < m.length/\Q .next l (H3.set r (.list (m.set k.toNat d)))
 | .setTold o e,l,H,Q,X=>vE ns c (exQ X l) e l H fun v H1=>vE ns c (exQ X l) o l H1 fun x H2=>kr (fun t=>kr (fun a=>RA (H2 a) fun d=>Q .next l (H2.set a (.robj d (some t)))) x) v
 | .expr e,l,H,Q,X=>vE ns c (exQ X l) e l H (exprQ l Q)
 | .ret e,l,H,Q,X=>vE ns c (exQ X l) e l H (rtQ l Q)
 | .ite t a b,l,H,Q,X=>vE ns c (exQ X l) t l H (iteQ (vSs ns c a l) (vSs ns c b l) Q X)
 | .forS i it body,l,H,Q,X=>vE ns c (exQ X l) it l H (forQ i (vSs ns c body) Q X l)
 | .whileS t body,l,H,Q,X=>∃I:Nat->Loc->Hp->Prop,(∃n,I n l H)/\∀n l H,I n l H->vE ns c (exQ X l) t l H fun x H'=>KB x fun r=>
   if r then vSs ns c body l H' (wQ I n Q) X
   else Q .next l H'
 | .brk,l,H,Q,_=>Q .brk l H
 | .cont,l,H,Q,_=>Q .cont l H
 | .raise k,l,H,_,X=>X k l H
 | .tryS body hs,l,H,Q,_=>vSs ns c body l H Q fun k l' H'=>vHs ns c hs k l' H' Q
noncomputable def vSs (ns:List Int) (c:CallT):List St->Loc->Hp->(Fl->Loc->Hp->Prop)->(Nat->Loc->Hp->Prop)->Prop
 | [],l,H,Q,_=>Q .next l H
 | s::r,l,H,Q,X=>vS ns c s l H (seqQ (vSs ns c r) Q X) X
noncomputable def vHs (ns:List Int) (c:CallT):List Hd->Nat->Loc->Hp->(Fl->Loc->Hp->Prop)->Prop
 | [],_,_,_,_=>False
 | .mk k' v b::r,k,l,H,Q=>if subc k k' then
   (∀e,vSs ns c b (match v with | some i=>l.set i (some (.exc e k)) | none=>l) H (fun fl l' H'=>Q fl (match v with | some _=>l'.map (fun _=>none) | none=>l') H') fun _ _ _=>False)
  else vHs ns c r k l H Q
end
section
variable {ns:List Int} {c:CallT} {l:Loc} {H:Hp} {Q:Fl->Loc->Hp->Prop} {X:Nat->Loc->Hp->Prop} {a b body r:List St} {e t i it o:Ex} {k:Nat}
theorem vHs_cons {k':Nat} {v:Option Nat} {hs:List Hd}:vHs ns c (.mk k' v b::hs) k l H Q=if subc k k' then
   (∀e,vSs ns c b (match v with | some i=>l.set i (some (.exc e k)) | none=>l) H (fun fl l' H'=>Q fl (match v with | some _=>l'.map (fun _=>none) | none=>l') H') fun _ _ _=>False)
  else vHs ns c hs k l H Q:=rfl
end
end Mine
set_option Elab.async false
namespace Mine
open PySem PyProof.Rows
structure Tab where
 fns:List Str
 consts:List (Str×D)
 dicts:List (Str×List (List Nat×Int))
 clss:List (Str×Nat)
 rname:Str
 meths:List (Str×Nat)
mutual
noncomputable def sameD:D->D->Bool
 | .none,b=>match b with | .none=>true | _=>false
 | .bool x,b=>match b with | .bool y=>x==y | _=>false
 | .int x,b=>match b with | .int y=>x==y | _=>false
 | .str x,b=>match b with | .str y=>x==y | _=>false
 | .tup x,b=>match b with | .tup y=>sameDs x y | _=>false
 | .cls x,b=>match b with | .cls y=>x==y | _=>false
 | .ref _,_=>false
 | .scr,_=>false
 | .exc _ _,_=>false
 | .rng _ _,_=>false
noncomputable def sameDs:List D->List D->Bool
 | [],l=>match l with | []=>true | _=>false
 | a::as,l=>match l with | b::bs=>sameD a b&&sameDs as bs | []=>false
end
mutual
theorem sameD_eq:∀{a b:D},sameD a b=true->a=b
 | .none,b,h=>by cases b <;> first | rfl | exact absurd h Bool.false_ne_true
 | .bool x,b,h=>by cases b <;> first | exact absurd h Bool.false_ne_true | exact congrArg D.bool (eq_of_beq h)
 | .int x,b,h=>by cases b <;> first | exact absurd h Bool.false_ne_true | exact congrArg D.int (eq_of_beq h)
 | .str x,b,h=>by cases b <;> first | exact absurd h Bool.false_ne_true | exact congrArg D.str (eq_of_beq h)
 | .tup x,b,h=>by cases b <;> first | exact absurd h Bool.false_ne_true | exact congrArg D.tup (sameDs_eq h)
 | .cls x,b,h=>by cases b <;> first | exact absurd h Bool.false_ne_true | exact congrArg D.cls (eq_of_beq h)
 | .ref _,_,h=>absurd h Bool.false_ne_true
 | .scr,_,h=>absurd h Bool.false_ne_true
 | .exc _ _,_,h=>absurd h Bool.false_ne_true
 | .rng _ _,_,h=>absurd h Bool.false_ne_true
theorem sameDs_eq:∀{a b:List D},sameDs a b=true->a=b
 | [],b,h=>by cases b <;> first | rfl | exact absurd h Bool.false_ne_true
 | a::as,b,h=>by
  cases b with
  | nil=>exact absurd h Bool.false_ne_true
  | cons b bs=>have h:=Bool.and_eq_true_iff.mp h;rw [sameD_eq h.1,sameDs_eq h.2]
end
noncomputable def opOk:Op->Operator->Bool
 | .add,.Add=>true
 | .sub,.Sub=>true
 | .mul,.Mult=>true
 | .fdiv,.FloorDiv=>true
 | .mod,.Mod=>true
 | _,_=>false
noncomputable def opOf:Op->Operator
 | .add=>.Add
 | .sub=>.Sub
 | .mul=>.Mult
 | .fdiv=>.FloorDiv
 | .mod=>.Mod
theorem opOk_eq {o:Op} {o':Operator} (h:opOk o o'=true):o'=opOf o:=by
 cases o <;> cases o' <;> first | rfl | exact absurd h Bool.false_ne_true
noncomputable def cmOk:Cm->CmpOp->Bool
 | .eq,.Eq=>true
 | .ne,.NotEq=>true
 | .lt,.Lt=>true
 | .le,.LtE=>true
 | .gt,.Gt=>true
 | .ge,.GtE=>true
 | .is,.Is=>true
 | .isnot,.IsNot=>true
 | .inn,.In=>true
 | .notin,.NotIn=>true
 | _,_=>false
noncomputable def bname:BI->String
 | .len=> "len"
 | .isinst=> "isinstance"
 | .range1=> "range"
 | .range2=> "range"
 | .min2=> "min"
 | .int=> "int"
 | .str=> "str"
 | .list=> "list"
noncomputable def bar:BI->Nat
 | .isinst=>2
 | .range2=>2
 | .min2=>2
 | _=>1
noncomputable def biOk (b:BI) (x:Str) (n:Nat):Bool:=Nat.blt 0 (bar b)&&x==Str.ofString (bname b)&&n==bar b
noncomputable def mtOk:Mt->Str->Nat->Bool
 | .append,x,n=>x==Str.ofString "append" && n==1
 | .pop,x,n=>x==Str.ofString "pop" && n==0
 | .clear,x,n=>x==Str.ofString "clear" && n==0
 | .join,x,n=>x==Str.ofString "join" && n==1
noncomputable def kindVar:Option NameKind->Bool
 | some .local=>true
 | some .cell=>true
 | some .free=>true
 | _=>false
noncomputable def isGlob (sc:List (Str×NameKind)) (x:Str):Bool:=sc.lookup x==some .globalImplicit
noncomputable def litOk (c:Const) (d:D):Bool:=match c with
 | .none=>match d with | .none=>true | _=>false
 | .bool b=>match d with | .bool b'=>b==b' | _=>false
 | .int i=>match d with | .int j=>i==j | _=>false
 | .str s=>match d with | .str l=>s.cps.toList==l&&decide (l.length<=SZ)&&l.all (fun c=>decide (c < 128)) | _=>false
 | _=>false
@[elab_as_elim] theorem inv_litOk {P:Const->D->Prop} {c:Const} {d:D} (h:litOk c d=true) (h0:P .none .none) (h1:∀b,P (.bool b) (.bool b)) (h2:∀i,P (.int i) (.int i))
  (h3:∀s,s.cps.toList.length<=SZ->(∀c∈s.cps.toList,c < 128)->P (.str s) (.str s.cps.toList)):P c d:=by
 cases c <;> try exact absurd h Bool.false_ne_true
 ·cases d <;> first | exact absurd h Bool.false_ne_true | exact h0
 ·cases d <;> try exact absurd h Bool.false_ne_true
  have:=eq_of_beq h;subst this;exact h1 _
 ·cases d <;> try exact absurd h Bool.false_ne_true
  have:=eq_of_beq h;subst this;exact h2 _
 ·cases d <;> try exact absurd h Bool.false_ne_true
  have h:=Bool.and_eq_true_iff.mp h
  have g:=Bool.and_eq_true_iff.mp h.1
  have e:=eq_of_beq g.1
  subst e
  exact h3 _ (of_decide_eq_true g.2) fun c hc=>of_decide_eq_true (List.all_eq_true.mp h.2 c hc)
noncomputable def globOk (T:Tab) (x:Str) (d:D):Bool:=match T.consts.lookup x with
 | some d'=>sameD d' d
 | none=>match T.clss.lookup x with
  | some c=>sameD (.cls c) d
  | none=>false
noncomputable def notSlice:Expr->Bool
 | .Slice ..=>false
 | _=>true
noncomputable def notBarred (x:Str):Bool:=!(x==Str.ofString "__debug__")&&!(x==Str.ofString "__classdict__")
noncomputable def compScopeOk (sc:List (Str×NameKind)) (scope:Scope) (y:Str) (vs:List Str):Bool:=
 (scope.kind==.function)&&(scope.names.lookup y==some .local)&&scope.names.all fun nk=>match nk.2 with
  | .local=>(scope.names.lookup nk.1==some .local)&&(nk.1==y||(ix vs nk.1==none))
  | .free=>(scope.names.lookup nk.1==some .free)&&(sc.lookup nk.1==some .cell||sc.lookup nk.1==some .free)
  | .globalImplicit=>true
  | _=>false
noncomputable def notBare:Expr->Bool
 | .Call (.Name _ _) [] [] _=>false
 | _=>true
noncomputable def isName:Expr->Bool
 | .Name ..=>true
 | _=>false
theorem on_split {c:Prop} [Decidable c] {f:c->Bool} {G:Prop} (h:(if q:c then f q else false)=true) (k:∀q,f q=true->G):G:=by
 by_cases q:c
 ·rw [dif_pos q] at h;exact k q h
 ·rw [dif_neg q] at h;exact absurd h Bool.false_ne_true
noncomputable def onBoolOp (e:Expr) (k:BoolOp->List Expr->Pos->Bool):Bool:=if h:e.ctorIdx=0 then Expr.BoolOp.elim (motive_1:=fun _=>Bool) e h k else false
@[elab_as_elim] theorem iBoolOp {P:Expr->Prop} {e:Expr} {k:BoolOp->List Expr->Pos->Bool} (h:onBoolOp e k=true) (c:∀x0 x1 x2,k x0 x1 x2=true->P (.BoolOp x0 x1 x2)):P e:=
 on_split h fun q h=>Expr.BoolOp.elim (motive_1:=fun e=>∀q,Expr.BoolOp.elim (motive_1:=fun _=>Bool) e q k=true->P e) e q (fun x0 x1 x2 _ h=>c x0 x1 x2 h) q h
noncomputable def onBinOp (e:Expr) (k:Expr->Operator->Expr->Pos->Bool):Bool:=if h:e.ctorIdx=2 then Expr.BinOp.elim (motive_1:=fun _=>Bool) e h k else false
@[elab_as_elim] theorem iBinOp {P:Expr->Prop} {e:Expr} {k:Expr->Operator->Expr->Pos->Bool} (h:onBinOp e k=true) (c:∀x0 x1 x2 x3,k x0 x1 x2 x3=true->P (.BinOp x0 x1 x2 x3)):P e:=
 on_split h fun q h=>Expr.BinOp.elim (motive_1:=fun e=>∀q,Expr.BinOp.elim (motive_1:=fun _=>Bool) e q k=true->P e) e q (fun x0 x1 x2 x3 _ h=>c x0 x1 x2 x3 h) q h
noncomputable def onUnaryOp (e:Expr) (k:UnaryOp->Expr->Pos->Bool):Bool:=if h:e.ctorIdx=3 then Expr.UnaryOp.elim (motive_1:=fun _=>Bool) e h k else false
@[elab_as_elim] theorem iUnaryOp {P:Expr->Prop} {e:Expr} {k:UnaryOp->Expr->Pos->Bool} (h:onUnaryOp e k=true) (c:∀x0 x1 x2,k x0 x1 x2=true->P (.UnaryOp x0 x1 x2)):P e:=
 on_split h fun q h=>Expr.UnaryOp.elim (motive_1:=fun e=>∀q,Expr.UnaryOp.elim (motive_1:=fun _=>Bool) e q k=true->P e) e q (fun x0 x1 x2 _ h=>c x0 x1 x2 h) q h
noncomputable def onListComp (e:Expr) (k:Expr->List Comprehension->Scope->Pos->Bool):Bool:=if h:e.ctorIdx=8 then Expr.ListComp.elim (motive_1:=fun _=>Bool) e h k else false
@[elab_as_elim] theorem iListComp {P:Expr->Prop} {e:Expr} {k:Expr->List Comprehension->Scope->Pos->Bool} (h:onListComp e k=true) (c:∀x0 x1 x2 x3,k x0 x1 x2 x3=true->P (.ListComp x0 x1 x2 x3)):P e:=
 on_split h fun q h=>Expr.ListComp.elim (motive_1:=fun e=>∀q,Expr.ListComp.elim (motive_1:=fun _=>Bool) e q k=true->P e) e q (fun x0 x1 x2 x3 _ h=>c x0 x1 x2 x3 h) q h
noncomputable def onCompare (e:Expr) (k:Expr->List CmpOp->List Expr->Pos->Bool):Bool:=if h:e.ctorIdx=15 then Expr.Compare.elim (motive_1:=fun _=>Bool) e h k else false
@[elab_as_elim] theorem iCompare {P:Expr->Prop} {e:Expr} {k:Expr->List CmpOp->List Expr->Pos->Bool} (h:onCompare e k=true) (c:∀x0 x1 x2 x3,k x0 x1 x2 x3=true->P (.Compare x0 x1 x2 x3)):P e:=
 on_split h fun q h=>Expr.Compare.elim (motive_1:=fun e=>∀q,Expr.Compare.elim (motive_1:=fun _=>Bool) e q k=true->P e) e q (fun x0 x1 x2 x3 _ h=>c x0 x1 x2 x3 h) q h
noncomputable def onCall (e:Expr) (k:Expr->List Expr->List Keyword->Pos->Bool):Bool:=if h:e.ctorIdx=16 then Expr.Call.elim (motive_1:=fun _=>Bool) e h k else false
@[elab_as_elim] theorem iCall {P:Expr->Prop} {e:Expr} {k:Expr->List Expr->List Keyword->Pos->Bool} (h:onCall e k=true) (c:∀x0 x1 x2 x3,k x0 x1 x2 x3=true->P (.Call x0 x1 x2 x3)):P e:=
 on_split h fun q h=>Expr.Call.elim (motive_1:=fun e=>∀q,Expr.Call.elim (motive_1:=fun _=>Bool) e q k=true->P e) e q (fun x0 x1 x2 x3 _ h=>c x0 x1 x2 x3 h) q h
noncomputable def onConstant (e:Expr) (k:Const->Nat->Pos->Bool):Bool:=if h:e.ctorIdx=19 then Expr.Constant.elim (motive_1:=fun _=>Bool) e h k else false
@[elab_as_elim] theorem iConstant {P:Expr->Prop} {e:Expr} {k:Const->Nat->Pos->Bool} (h:onConstant e k=true) (c:∀x0 x1 x2,k x0 x1 x2=true->P (.Constant x0 x1 x2)):P e:=
 on_split h fun q h=>Expr.Constant.elim (motive_1:=fun e=>∀q,Expr.Constant.elim (motive_1:=fun _=>Bool) e q k=true->P e) e q (fun x0 x1 x2 _ h=>c x0 x1 x2 h) q h
noncomputable def onAttribute (e:Expr) (k:Expr->Str->Pos->Bool):Bool:=if h:e.ctorIdx=20 then Expr.Attribute.elim (motive_1:=fun _=>Bool) e h k else false
@[elab_as_elim] theorem iAttribute {P:Expr->Prop} {e:Expr} {k:Expr->Str->Pos->Bool} (h:onAttribute e k=true) (c:∀x0 x1 x2,k x0 x1 x2=true->P (.Attribute x0 x1 x2)):P e:=
 on_split h fun q h=>Expr.Attribute.elim (motive_1:=fun e=>∀q,Expr.Attribute.elim (motive_1:=fun _=>Bool) e q k=true->P e) e q (fun x0 x1 x2 _ h=>c x0 x1 x2 h) q h
noncomputable def onSubscript (e:Expr) (k:Expr->Expr->Pos->Bool):Bool:=if h:e.ctorIdx=21 then Expr.Subscript.elim (motive_1:=fun _=>Bool) e h k else false
@[elab_as_elim] theorem iSubscript {P:Expr->Prop} {e:Expr} {k:Expr->Expr->Pos->Bool} (h:onSubscript e k=true) (c:∀x0 x1 x2,k x0 x1 x2=true->P (.Subscript x0 x1 x2)):P e:=
 on_split h fun q h=>Expr.Subscript.elim (motive_1:=fun e=>∀q,Expr.Subscript.elim (motive_1:=fun _=>Bool) e q k=true->P e) e q (fun x0 x1 x2 _ h=>c x0 x1 x2 h) q h
noncomputable def onName (e:Expr) (k:Str->Pos->Bool):Bool:=if h:e.ctorIdx=23 then Expr.Name.elim (motive_1:=fun _=>Bool) e h k else false
@[elab_as_elim] theorem iName {P:Expr->Prop} {e:Expr} {k:Str->Pos->Bool} (h:onName e k=true) (c:∀x0 x1,k x0 x1=true->P (.Name x0 x1)):P e:=
 on_split h fun q h=>Expr.Name.elim (motive_1:=fun e=>∀q,Expr.Name.elim (motive_1:=fun _=>Bool) e q k=true->P e) e q (fun x0 x1 _ h=>c x0 x1 h) q h
noncomputable def onList (e:Expr) (k:List Expr->Pos->Bool):Bool:=if h:e.ctorIdx=24 then Expr.List.elim (motive_1:=fun _=>Bool) e h k else false
@[elab_as_elim] theorem iList {P:Expr->Prop} {e:Expr} {k:List Expr->Pos->Bool} (h:onList e k=true) (c:∀x0 x1,k x0 x1=true->P (.List x0 x1)):P e:=
 on_split h fun q h=>Expr.List.elim (motive_1:=fun e=>∀q,Expr.List.elim (motive_1:=fun _=>Bool) e q k=true->P e) e q (fun x0 x1 _ h=>c x0 x1 h) q h
noncomputable def onTuple (e:Expr) (k:List Expr->Nat->Pos->Bool):Bool:=if h:e.ctorIdx=25 then Expr.Tuple.elim (motive_1:=fun _=>Bool) e h k else false
@[elab_as_elim] theorem iTuple {P:Expr->Prop} {e:Expr} {k:List Expr->Nat->Pos->Bool} (h:onTuple e k=true) (c:∀x0 x1 x2,k x0 x1 x2=true->P (.Tuple x0 x1 x2)):P e:=
 on_split h fun q h=>Expr.Tuple.elim (motive_1:=fun e=>∀q,Expr.Tuple.elim (motive_1:=fun _=>Bool) e q k=true->P e) e q (fun x0 x1 x2 _ h=>c x0 x1 x2 h) q h
noncomputable def onSlice (e:Expr) (k:Option Expr->Option Expr->Option Expr->Pos->Bool):Bool:=if h:e.ctorIdx=26 then Expr.Slice.elim (motive_1:=fun _=>Bool) e h k else false
@[elab_as_elim] theorem iSlice {P:Expr->Prop} {e:Expr} {k:Option Expr->Option Expr->Option Expr->Pos->Bool} (h:onSlice e k=true) (c:∀x0 x1 x2 x3,k x0 x1 x2 x3=true->P (.Slice x0 x1 x2 x3)):P e:=
 on_split h fun q h=>Expr.Slice.elim (motive_1:=fun e=>∀q,Expr.Slice.elim (motive_1:=fun _=>Bool) e q k=true->P e) e q (fun x0 x1 x2 x3 _ h=>c x0 x1 x2 x3 h) q h
noncomputable def on1 {α:Type} (l:List α) (k:α->Bool):Bool:=match l with | []=>false | x::r=>match r with | []=>k x | _::_=>false
noncomputable def on2 {α:Type} (l:List α) (k:α->α->Bool):Bool:=match l with | []=>false | x::r=>on1 r fun y=>k x y
noncomputable def onMore {α:Type} (l:List α) (k:α->α->List α->Bool):Bool:=match l with | []=>false | x::r=>match r with | []=>false | y::r=>k x y r
noncomputable def onNil {α:Type} (l:List α):Bool:=match l with | []=>true | _::_=>false
@[elab_as_elim] theorem i1 {α:Type} {P:List α->Prop} {l:List α} {k:α->Bool} (h:on1 l k=true) (c:∀x,k x=true->P [x]):P l:=by
 rcases l with _ | ⟨x,_ | ⟨_,_⟩⟩ <;> first | exact c _ h | exact absurd h Bool.false_ne_true
@[elab_as_elim] theorem i2 {α:Type} {P:List α->Prop} {l:List α} {k:α->α->Bool} (h:on2 l k=true) (c:∀x y,k x y=true->P [x,y]):P l:=by
 rcases l with _ | ⟨x,l⟩
 ·exact absurd h Bool.false_ne_true
 ·exact i1 (P:=fun l=>P (x::l)) h fun y h=>c x y h
@[elab_as_elim] theorem iMore {α:Type} {P:List α->Prop} {l:List α} {k:α->α->List α->Bool} (h:onMore l k=true) (c:∀x y r,k x y r=true->P (x::y::r)):P l:=by
 rcases l with _ | ⟨x,_ | ⟨y,r⟩⟩ <;> first | exact c _ _ _ h | exact absurd h Bool.false_ne_true
@[elab_as_elim] theorem iNil {α:Type} {P:List α->Prop} {l:List α} (h:onNil l=true) (c:P []):P l:=by
 cases l <;> first | exact c | exact absurd h Bool.false_ne_true
noncomputable def zeroI (k:Int):Bool:=k==0
@[elab_as_elim] theorem izero {P:Int->Prop} {k:Int} (h:zeroI k=true) (c:P 0):P k:=by have:=eq_of_beq h;subst this;exact c
noncomputable def isNoLit:Ex->Bool
 | .lit .none=>true
 | _=>false
theorem noLit_eq {x:Ex} (h:isNoLit x=true):x=.lit .none:=by
 cases x <;> try exact absurd h Bool.false_ne_true
 rename_i d
 cases d <;> first | exact absurd h Bool.false_ne_true | rfl
mutual
noncomputable def chkE (T:Tab) (sc:List (Str×NameKind)) (vs:List Str):Ex->Expr->Bool
 | .lit d,e=>onConstant e (fun c _ _=>litOk c d)||onName e fun x _=>isGlob sc x&&globOk T x d&&notBarred x
 | .var i,e=>onName e fun x _=>kindVar (sc.lookup x)&&(ix vs x==some i)&&notBarred x
 | .bin o a b,e=>onBinOp e fun l o' r _=>opOk o o'&&chkE T sc vs a l&&chkE T sc vs b r
 | .not a,e=>onUnaryOp e fun o x _=>match o with
  | .Not=>chkE T sc vs a x
  | _=>false
 | .neg a,e=>onUnaryOp e fun o x _=>match o with
  | .USub=>chkE T sc vs a x
  | _=>false
 | .cmp o a b,e=>onCompare e fun l os rs _=>on1 os fun o'=>on1 rs fun r=>cmOk o o'&&chkE T sc vs a l&&chkE T sc vs b r
 | .cmp2 o p a b c,e=>onCompare e fun l os rs _=>on2 os fun o' p'=>on2 rs fun r q=>cmOk o o'&&cmOk p p'&&chkE T sc vs a l&&chkE T sc vs b r&&chkE T sc vs c q
 | .and a b,e=>onBoolOp e fun o xs p=>onMore xs fun x y r=>match o with
  | .And=>chkE T sc vs a x&&(match r with | []=>chkE T sc vs b y | _::_=>chkE T sc vs b (.BoolOp .And (y::r) p))
  | _=>false
 | .or a b,e=>onBoolOp e fun o xs p=>onMore xs fun x y r=>match o with
  | .Or=>chkE T sc vs a x&&(match r with | []=>chkE T sc vs b y | _::_=>chkE T sc vs b (.BoolOp .Or (y::r) p))
  | _=>false
 | .item a i,e=>onSubscript e fun v s _=>notSlice s&&chkE T sc vs a v&&chkE T sc vs i s
 | .slice a lo hi,e=>onSubscript e fun v s _=>onSlice s fun l u st _=>match st with
  | none=>chkE T sc vs a v&&(match l with | none=>isNoLit lo | some l=>chkE T sc vs lo l)&&(match u with | none=>isNoLit hi | some u=>chkE T sc vs hi u)
  | some _=>false
 | .tup es,e=>onTuple e fun xs _ _=>chkEs T sc vs es xs&&decide (es.length<=100)
 | .list es,e=>onList e fun xs _=>chkEs T sc vs es xs&&decide (es.length<=100)
 | .call f es,e=>onCall e fun fn xs kw _=>onNil kw&&onName fn fun x _=>isGlob sc x&&(ix T.fns x==some f)&&chkEs T sc vs es xs&&notBarred x
 | .bi b es,e=>onCall e fun fn xs kw _=>onNil kw&&onName fn fun x _=>isGlob sc x&&biOk b x es.length&&chkEs T sc vs es xs&&notBarred x
 | .meth m o es,e=>onCall e fun fn xs kw p=>onNil kw&&onAttribute fn fun v x ap=>mtOk m x es.length&&chkE T sc vs o v&&chkEs T sc vs es xs&&(ap.endLine==p.line)&&notBare v
 | .comp e it,x=>onListComp x fun elt gs scope _=>on1 gs fun g=>onName g.target fun y _=>onNil g.ifs&&zeroI g.is_async&&(chkE T sc vs it g.iter&&chkE T scope.names (y::vs) e elt&&compScopeOk sc scope y vs)
 | .compIf e it c,x=>onListComp x fun elt gs scope _=>on1 gs fun g=>onName g.target fun y _=>zeroI g.is_async&&on1 g.ifs fun cond=>chkE T sc vs it g.iter&&chkE T scope.names (y::vs) e elt&&chkE T scope.names (y::vs) c cond&&compScopeOk sc scope y vs
 | .zipl a b,e=>onCall e fun fn xs kw _=>onNil kw&&onName fn fun x _=>isGlob sc x&&(x==Str.ofString "list")&&notBarred x&&on1 xs fun ar=>onCall ar fun f2 ys kw2 _=>onNil kw2&&onName f2 fun y _=>isGlob sc y&&(y==Str.ofString "zip")&&notBarred y&&on2 ys fun u v=>chkE T sc vs a u&&chkE T sc vs b v
 | .told o,e=>onAttribute e fun v x _=>(x==told)&&isName v&&chkE T sc vs o v
 | .mcall f o es,e=>onCall e fun fn xs kw p=>onNil kw&&onAttribute fn fun v x ap=>(T.meths.lookup x==some f)&&chkE T sc vs o v&&chkEs T sc vs es xs&&decide (es.length<=20)&&((ap.endLine==p.line)&&notBare v)
 | .new,e=>onCall e fun fn xs kw _=>onNil kw&&onNil xs&&onName fn fun x _=>isGlob sc x&&(x==T.rname)&&notBarred x&&!T.meths.isEmpty
 | _,_=>false
noncomputable def chkEs (T:Tab) (sc:List (Str×NameKind)) (vs:List Str):List Ex->List Expr->Bool
 | [],xs=>match xs with
  | []=>true
  | _=>false
 | e::es,xs=>match xs with
  | x::xs=>chkE T sc vs e x&&chkEs T sc vs es xs
  | []=>false
end
section
variable {T:Tab} {sc:List (Str×NameKind)} {vs:List Str} {P:Expr->Prop} {e:Expr}
theorem and2 {a b:Bool} {C:Prop} (h:(a&&b)=true) (k:a=true->b=true->C):C:=k (Bool.and_eq_true_iff.mp h).1 (Bool.and_eq_true_iff.mp h).2
theorem and3 {a b c:Bool} {C:Prop} (h:(a&&b&&c)=true) (k:a=true->b=true->c=true->C):C:=and2 h fun h z=>and2 h fun x y=>k x y z
theorem and4 {a b c d:Bool} {C:Prop} (h:(a&&b&&c&&d)=true) (k:a=true->b=true->c=true->d=true->C):C:=and2 h fun h u=>and3 h fun x y z=>k x y z u
theorem and5 {a b c d e:Bool} {C:Prop} (h:(a&&b&&c&&d&&e)=true) (k:a=true->b=true->c=true->d=true->e=true->C):C:=and2 h fun h v=>and4 h fun x y z u=>k x y z u v
@[elab_as_elim] theorem inv_lit {d:D} (hc:chkE T sc vs (.lit d) e=true) (h1:∀c k p,litOk c d=true->P (.Constant c k p)) (h2:∀x p,isGlob sc x=true->globOk T x d=true->notBarred x=true->P (.Name x p)):P e:=by
 rcases Bool.or_eq_true_iff.mp hc with hc | hc
 ·exact iConstant hc fun _ _ _ q=>h1 _ _ _ q
 ·exact iName hc fun _ _ q=>and3 q (h2 _ _)
@[elab_as_elim] theorem inv_var {i:Nat} (hc:chkE T sc vs (.var i) e=true) (h:∀x p,kindVar (sc.lookup x)=true->(ix vs x==some i)=true->notBarred x=true->P (.Name x p)):P e:=by
 exact iName hc fun _ _ q=>and3 q (h _ _)
@[elab_as_elim] theorem inv_bin {o:Op} {a b:Ex} (hc:chkE T sc vs (.bin o a b) e=true) (h:∀l o' r p,opOk o o'=true->chkE T sc vs a l=true->chkE T sc vs b r=true->P (.BinOp l o' r p)):P e:=by
 exact iBinOp hc fun _ _ _ _ q=>and3 q (h _ _ _ _)
@[elab_as_elim] theorem inv_not {a:Ex} (hc:chkE T sc vs (.not a) e=true) (h:∀x p,chkE T sc vs a x=true->P (.UnaryOp .Not x p)):P e:=by
 refine iUnaryOp hc fun o _ _ q=>?_
 cases o <;> first | exact absurd q Bool.false_ne_true | exact h _ _ q
@[elab_as_elim] theorem inv_neg {a:Ex} (hc:chkE T sc vs (.neg a) e=true) (h:∀x p,chkE T sc vs a x=true->P (.UnaryOp .USub x p)):P e:=by
 refine iUnaryOp hc fun o _ _ q=>?_
 cases o <;> first | exact absurd q Bool.false_ne_true | exact h _ _ q
@[elab_as_elim] theorem inv_cmp {o:Cm} {a b:Ex} (hc:chkE T sc vs (.cmp o a b) e=true) (h:∀l o' r p,cmOk o o'=true->chkE T sc vs a l=true->chkE T sc vs b r=true->P (.Compare l [o'] [r] p)):P e:=by
 exact iCompare hc fun _ _ _ _ q=>i1 q fun _ q=>i1 q fun _ q=>and3 q (h _ _ _ _)
@[elab_as_elim] theorem inv_cmp2 {o q:Cm} {a b c:Ex} (hc:chkE T sc vs (.cmp2 o q a b c) e=true)
  (h:∀l o' q' r m p,cmOk o o'=true->cmOk q q'=true->chkE T sc vs a l=true->chkE T sc vs b r=true->chkE T sc vs c m=true->P (.Compare l [o',q'] [r,m] p)):P e:=by
 exact iCompare hc fun _ _ _ _ q=>i2 q fun _ _ q=>i2 q fun _ _ q=>and5 q (h _ _ _ _ _ _)
@[elab_as_elim] theorem inv_and {a b:Ex} (hc:chkE T sc vs (.and a b) e=true) (h:∀x y r p,chkE T sc vs a x=true->(match r with | []=>chkE T sc vs b y | _::_=>chkE T sc vs b (.BoolOp .And (y::r) p))=true->P (.BoolOp .And (x::y::r) p)):P e:=by
 refine iBoolOp hc fun o _ _ q=>?_
 refine iMore q fun _ _ _ q=>?_
 cases o <;> first | exact absurd q Bool.false_ne_true | exact and2 q (h _ _ _ _)
@[elab_as_elim] theorem inv_or {a b:Ex} (hc:chkE T sc vs (.or a b) e=true) (h:∀x y r p,chkE T sc vs a x=true->(match r with | []=>chkE T sc vs b y | _::_=>chkE T sc vs b (.BoolOp .Or (y::r) p))=true->P (.BoolOp .Or (x::y::r) p)):P e:=by
 refine iBoolOp hc fun o _ _ q=>?_
 refine iMore q fun _ _ _ q=>?_
 cases o <;> first | exact absurd q Bool.false_ne_true | exact and2 q (h _ _ _ _)
@[elab_as_elim] theorem inv_item {a i:Ex} (hc:chkE T sc vs (.item a i) e=true) (h:∀v s p,notSlice s=true->chkE T sc vs a v=true->chkE T sc vs i s=true->P (.Subscript v s p)):P e:=by
 exact iSubscript hc fun _ _ _ q=>and3 q (h _ _ _)
noncomputable def partOk (T:Tab) (sc:List (Str×NameKind)) (vs:List Str) (x:Ex) (o:Option Expr):Bool:=match o with | none=>isNoLit x | some l=>chkE T sc vs x l
@[elab_as_elim] theorem inv_slice {a lo hi:Ex} (hc:chkE T sc vs (.slice a lo hi) e=true) (h:∀v l u p p',chkE T sc vs a v=true->partOk T sc vs lo l=true->partOk T sc vs hi u=true->P (.Subscript v (.Slice l u none p) p')):P e:=by
 refine iSubscript hc fun _ _ _ q=>?_
 refine iSlice q fun _ _ st _ q=>?_
 cases st <;> first | exact absurd q Bool.false_ne_true | exact and3 q (h _ _ _ _ _)
@[elab_as_elim] theorem inv_tup {es:List Ex} (hc:chkE T sc vs (.tup es) e=true) (h:∀xs k p,chkEs T sc vs es xs=true->es.length<=100->P (.Tuple xs k p)):P e:=by
 exact iTuple hc fun _ _ _ q=>and2 q fun x y=>h _ _ _ x (of_decide_eq_true y)
@[elab_as_elim] theorem inv_list {es:List Ex} (hc:chkE T sc vs (.list es) e=true) (h:∀xs p,chkEs T sc vs es xs=true->es.length<=100->P (.List xs p)):P e:=by
 exact iList hc fun _ _ q=>and2 q fun x y=>h _ _ x (of_decide_eq_true y)
@[elab_as_elim] theorem inv_call {f:Nat} {es:List Ex} (hc:chkE T sc vs (.call f es) e=true) (h:∀x np xs p,isGlob sc x=true->ix T.fns x=some f->chkEs T sc vs es xs=true->notBarred x=true->P (.Call (.Name x np) xs [] p)):P e:=by
 exact iCall hc fun _ _ _ _ q=>and2 q fun a q=>iNil a (iName q fun _ _ q=>and4 q fun x y=>h _ _ _ _ x (eq_of_beq y))
@[elab_as_elim] theorem inv_bi {b:BI} {es:List Ex} (hc:chkE T sc vs (.bi b es) e=true) (h:∀x np xs p,isGlob sc x=true->biOk b x es.length=true->chkEs T sc vs es xs=true->notBarred x=true->P (.Call (.Name x np) xs [] p)):P e:=by
 exact iCall hc fun _ _ _ _ q=>and2 q fun a q=>iNil a (iName q fun _ _ q=>and4 q (h _ _ _ _))
@[elab_as_elim] theorem inv_meth {m:Mt} {o:Ex} {es:List Ex} (hc:chkE T sc vs (.meth m o es) e=true)
  (h:∀v x ap xs p,mtOk m x es.length=true->chkE T sc vs o v=true->chkEs T sc vs es xs=true->(ap.endLine==p.line)=true->notBare v=true->P (.Call (.Attribute v x ap) xs [] p)):P e:=by
 exact iCall hc fun _ _ _ _ q=>and2 q fun a q=>iNil a (iAttribute q fun _ _ _ q=>and5 q (h _ _ _ _ _))
@[elab_as_elim] theorem inv_comp {x it:Ex} (hc:chkE T sc vs (.comp x it) e=true)
  (h:∀elt y py iter scope p,chkE T sc vs it iter=true->chkE T scope.names (y::vs) x elt=true->compScopeOk sc scope y vs=true->P (.ListComp elt [⟨.Name y py,iter,[],0⟩] scope p)):P e:=by
 refine iListComp hc fun elt _ scope p q=>i1 q fun g q=>?_
 obtain ⟨tg,iter,ifs,k⟩:=g
 refine iName (e:=tg) (P:=fun tg=>P (.ListComp elt [⟨tg,iter,ifs,k⟩] scope p)) q fun y py q=>and3 q fun a b q=>?_
 exact iNil (l:=ifs) (P:=fun ifs=>P (.ListComp elt [⟨.Name y py,iter,ifs,k⟩] scope p)) a (izero (k:=k) (P:=fun k=>P (.ListComp elt [⟨.Name y py,iter,[],k⟩] scope p)) b (and3 q (h _ _ _ _ _ _)))
@[elab_as_elim] theorem inv_compIf {x it c:Ex} (hc:chkE T sc vs (.compIf x it c) e=true)
  (h:∀elt y py iter cond scope p,chkE T sc vs it iter=true->chkE T scope.names (y::vs) x elt=true->chkE T scope.names (y::vs) c cond=true->compScopeOk sc scope y vs=true->P (.ListComp elt [⟨.Name y py,iter,[cond],0⟩] scope p)):P e:=by
 refine iListComp hc fun elt _ scope p q=>i1 q fun g q=>?_
 obtain ⟨tg,iter,ifs,k⟩:=g
 refine iName (e:=tg) (P:=fun tg=>P (.ListComp elt [⟨tg,iter,ifs,k⟩] scope p)) q fun y py q=>and2 q fun b q=>?_
 exact izero (k:=k) (P:=fun k=>P (.ListComp elt [⟨.Name y py,iter,ifs,k⟩] scope p)) b (i1 (l:=ifs) (P:=fun ifs=>P (.ListComp elt [⟨.Name y py,iter,ifs,0⟩] scope p)) q fun _ q=>and4 q (h _ _ _ _ _ _ _))
@[elab_as_elim] theorem inv_zipl {a b:Ex} (hc:chkE T sc vs (.zipl a b) e=true)
  (h:∀np np2 u v p p2,isGlob sc (Str.ofString "list")=true->notBarred (Str.ofString "list")=true->isGlob sc (Str.ofString "zip")=true->notBarred (Str.ofString "zip")=true->chkE T sc vs a u=true->chkE T sc vs b v=true->P (.Call (.Name (Str.ofString "list") np) [.Call (.Name (Str.ofString "zip") np2) [u,v] [] p2] [] p)):P e:=by
 refine iCall hc fun fn xs kw p q=>and2 q fun a1 q1=>iNil (l:=kw) (P:=fun kw=>P (.Call fn xs kw p)) a1 ?_
 refine iName (e:=fn) (P:=fun fn=>P (.Call fn xs [] p)) q1 fun x np q2=>and4 q2 fun g1 e1 g2 q3=>?_
 obtain rfl:=eq_of_beq e1
 refine i1 (l:=xs) (P:=fun xs=>P (.Call _ xs [] p)) q3 fun ar q4=>?_
 refine iCall (e:=ar) (P:=fun ar=>P (.Call _ [ar] [] p)) q4 fun f2 ys kw2 p2 q5=>and2 q5 fun a2 q6=>iNil (l:=kw2) (P:=fun kw=>P (.Call _ [.Call f2 ys kw p2] [] p)) a2 ?_
 refine iName (e:=f2) (P:=fun f2=>P (.Call _ [.Call f2 ys [] p2] [] p)) q6 fun y np2 q7=>and4 q7 fun g3 e2 g4 q8=>?_
 obtain rfl:=eq_of_beq e2
 exact i2 (l:=ys) (P:=fun ys=>P (.Call _ [.Call _ ys [] p2] [] p)) q8 fun u v q9=>and2 q9 fun c1 c2=>h _ _ u v _ _ g1 g2 g3 g4 c1 c2
@[elab_as_elim] theorem inv_told {o:Ex} (hc:chkE T sc vs (.told o) e=true) (h:∀x np ap,chkE T sc vs o (.Name x np)=true->P (.Attribute (.Name x np) told ap)):P e:=by
 refine iAttribute hc fun v x p q=>and3 q fun q1 q2 q3=>?_
 obtain rfl:=eq_of_beq q1
 cases v <;> first | exact absurd q2 Bool.false_ne_true | exact h _ _ _ q3
@[elab_as_elim] theorem inv_mcall {f:Nat} {o:Ex} {es:List Ex} (hc:chkE T sc vs (.mcall f o es) e=true)
  (h:∀v x ap xs p,T.meths.lookup x=some f->chkE T sc vs o v=true->chkEs T sc vs es xs=true->es.length<=20->(ap.endLine==p.line)=true->notBare v=true->P (.Call (.Attribute v x ap) xs [] p)):P e:=by
 exact iCall hc fun _ _ _ _ q=>and2 q fun a q=>iNil a (iAttribute q fun _ _ _ q=>and5 q fun q1 q2 q3 q4 q5=>and2 q5 fun q5 q6=>h _ _ _ _ _ (eq_of_beq q1) q2 q3 (of_decide_eq_true q4) q5 q6)
@[elab_as_elim] theorem inv_new (hc:chkE T sc vs .new e=true)
  (h:∀np p,isGlob sc T.rname=true->notBarred T.rname=true->T.meths≠[]->P (.Call (.Name T.rname np) [] [] p)):P e:=by
 refine iCall hc fun fn xs kw p q=>and3 q fun a b q=>?_
 refine iNil (l:=kw) (P:=fun kw=>P (.Call fn xs kw p)) a (iNil (l:=xs) (P:=fun xs=>P (.Call fn xs [] p)) b ?_)
 refine iName (e:=fn) (P:=fun fn=>P (.Call fn [] [] p)) q fun x np q=>and4 q fun q1 q2 q3 q4=>?_
 obtain rfl:=eq_of_beq q2
 exact h np p q1 q3 fun e=>by rw [e] at q4;exact absurd q4 Bool.false_ne_true
noncomputable def treeOk:Expr->Bool
 | .Attribute .. | .Constant .. | .Name .. | .BinOp .. | .UnaryOp .. | .Compare .. | .BoolOp .. | .Subscript .. | .Tuple .. | .List .. | .Call .. | .ListComp ..=>true
 | _=>false
theorem chk_tree {x:Ex} (hc:chkE T sc vs x e=true):treeOk e=true:=by
 cases x with
 | lit=>exact inv_lit (P:=fun e=>treeOk e=true) hc (fun _ _ _ _=>rfl) (fun _ _ _ _ _=>rfl)
 | var=>exact inv_var (P:=fun e=>treeOk e=true) hc fun _ _ _ _ _=>rfl
 | bin=>exact inv_bin (P:=fun e=>treeOk e=true) hc fun _ _ _ _ _ _ _=>rfl
 | not=>exact inv_not (P:=fun e=>treeOk e=true) hc fun _ _ _=>rfl
 | neg=>exact inv_neg (P:=fun e=>treeOk e=true) hc fun _ _ _=>rfl
 | cmp=>exact inv_cmp (P:=fun e=>treeOk e=true) hc fun _ _ _ _ _ _ _=>rfl
 | cmp2=>exact inv_cmp2 (P:=fun e=>treeOk e=true) hc fun _ _ _ _ _ _ _ _ _ _ _=>rfl
 | and=>exact inv_and (P:=fun e=>treeOk e=true) hc fun _ _ _ _ _ _=>rfl
 | or=>exact inv_or (P:=fun e=>treeOk e=true) hc fun _ _ _ _ _ _=>rfl
 | item=>exact inv_item (P:=fun e=>treeOk e=true) hc fun _ _ _ _ _ _=>rfl
 | slice=>exact inv_slice (P:=fun e=>treeOk e=true) hc fun _ _ _ _ _ _ _ _=>rfl
 | tup=>exact inv_tup (P:=fun e=>treeOk e=true) hc fun _ _ _ _ _=>rfl
 | list=>exact inv_list (P:=fun e=>treeOk e=true) hc fun _ _ _ _=>rfl
 | call=>exact inv_call (P:=fun e=>treeOk e=true) hc fun _ _ _ _ _ _ _ _=>rfl
 | bi=>exact inv_bi (P:=fun e=>treeOk e=true) hc fun _ _ _ _ _ _ _ _=>rfl
 | meth=>exact inv_meth (P:=fun e=>treeOk e=true) hc fun _ _ _ _ _ _ _ _ _ _=>rfl
 | comp=>exact inv_comp (P:=fun e=>treeOk e=true) hc fun _ _ _ _ _ _ _ _ _=>rfl
 | compIf=>exact inv_compIf (P:=fun e=>treeOk e=true) hc fun _ _ _ _ _ _ _ _ _ _ _=>rfl
 | inTab=>exact absurd hc Bool.false_ne_true
 | itemTab=>exact absurd hc Bool.false_ne_true
 | zipl=>exact inv_zipl (P:=fun e=>treeOk e=true) hc fun _ _ _ _ _ _ _ _ _ _ _ _=>rfl
 | told=>exact inv_told (P:=fun e=>treeOk e=true) hc fun _ _ _ _=>rfl
 | mcall=>exact inv_mcall (P:=fun e=>treeOk e=true) hc fun _ _ _ _ _ _ _ _ _ _ _=>rfl
 | new=>exact inv_new (P:=fun e=>treeOk e=true) hc fun _ _ _ _ _=>rfl
end
noncomputable def GlobV (B:Bs) (x:Str) (v:Value):Prop:=B.mg x=some v\/(B.mg x=none/\B.mb x=some v)
noncomputable def bltOf:List (String×Value):=[("len",.builtin "len"),("isinstance",.builtin "isinstance"),("range",.type "range"),("min",.builtin "min"),("max",.builtin "max"),
 ("int",.type "int"),("str",.type "str"),("list",.type "list"),("zip",.type "zip")]
inductive InitAt (B:Bs) (mN:Str->Option Value):Prop
 | mk (f:Addr) (o:Obj) (qual:Str) (params:Arguments) (scope:Scope) (pm cd doc:Value) (p1 p2 p3 p4:Pos) (e:mN "__init__" = some (.ref f)) (g:B.base.get? f=some o) (c:o.cls=.type "function")
  (dt:o.data=.func (methDef "__init__" qual params [.Assign [.Attribute (.Name (Str.ofString "self") p1) told p2] (.List [] p3) p4] scope pm cd doc)) (r:B.base.CodeRec cd qual)
  (ps:params={ posonlyargs:=[],args:=params.args,vararg:=none,kwonlyargs:=[],kw_defaults:=[],kwarg:=none,defaults:=[] }) (pa:params.args.map (·.arg)=[Str.ofString "self"])
  (lk:scope.names.lookup (Str.ofString "self")=some .local) (nc:∀x∈scope.names,x.2≠.cell) (co:scope.isCoroutine=false) (ge:scope.isGenerator=false) (kd:scope.kind=.function)
inductive RdAt (B:Bs) (T:Tab):Prop
 | mk (C N:Addr) (mN:Str->Option Value) (e:B.rdr=.ref C) (X:PyProof.Rows.ClsAt B.base C N mN) (g:B.mg T.rname=some (.ref C))
  (q1:mN "__getattribute__" = none) (q2:mN "__getattr__" = none) (q3:mN "__setattr__" = none) (q4:mN told=none) (i:InitAt B mN)
  (m:∀x f,T.meths.lookup x=some f->x≠told/\mN x=some (.ref (B.fa f))/\(∃y,typeLookup (.type "object") x=pure y)/\∃o fd,B.base.get? (B.fa f)=some o/\o.cls=.type "function" /\ o.data=.func fd)
structure BOk (prog:Program) (w:World) (B:Bs) (T:Tab):Prop where
 rd:(T.meths≠[]\/∃C,B.rdr=.ref C)->RdAt B T
 ty10:B.clsv 10=.type "str"
 ty11:B.clsv 11=.type "int"
 ty12:B.clsv 12=.type "bool"
 ty13:B.clsv 13=.type "tuple"
 ty14:B.clsv 14=.type "list"
 ty15:B.clsv 15=.type "ValueError"
 tyne:∀c,B.clsv c≠.none
 g:B.base.Ns mainGlobals B.mg
 b:B.base.Ns builtinsNs B.mb
 nolimit:B.base.NoLimit
 const:∀x d,T.consts.lookup x=some d->∃v,B.mg x=some v/\Rep B B.base d v
 cls:∀x c,T.clss.lookup x=some c->GlobV B x (B.clsv c)/\(c<=6->∃C,B.clsv c=.ref C)
 isx:∀{A:Around} {E:Value->Shared->Prop} {Q:Value->Shared->Prop} {s:Shared} {a:Addr} {o:Obj} {k c:Nat} {C:Addr},B.base.StaysIn s.heap->s.heap.get? a=some o->o.cls=.ref C->B.clsv k=.ref C ->
  ((∃C',B.clsv c=.ref C')\/c=15)->(∀tk,Q (.bool (c==0||c==k||c==15)) { s with toks:=tk })->wpAny (model prog w) A (call (.builtin "isinstance") [.ref a,B.clsv c]) Q E s
 fn:∀x i,ix T.fns x=some i->B.mg x=some (.ref (B.fa i))/\∃o fd,B.base.get? (B.fa i)=some o/\o.data=.func fd
 blt:∀x v,(x,v)∈bltOf->GlobV B (Str.ofString x) v
 dict:∀x t,T.dicts.lookup x=some t->∃a m,B.mg x=some (.ref a)/\B.base.MapOf (strKind prog w) a m/\(a==sysModules)=false/\∀k:List Nat,(match tabGet t k with | some i=>∃tk,m ⟨k.toArray⟩=some (.int i tk) | none=>m ⟨k.toArray⟩=none)
 scr:∃vs n,IsL B.base B.scr vs n/\RepL B B.base (B.ns.map D.int) vs.toList/\B.ns.length<=63
inductive ExcOk (B:Bs) (n0:Nat) (e:Addr) (c:Nat) (h:Heap):Prop
 | mk (le:@LE.le Nat _ n0 e) (o:Obj) (vs:Array Value) (C:Addr) (get:h.get? e=some o) (cls:o.cls=.ref C) (clsv:B.clsv c=.ref C) (data:o.data=.fields vs) (two:2 < vs.size)
  (tb:vs[1]?=some .none\/∃T oT ts,vs[1]?=some (.ref T)/\n0<=T/\T≠e/\h.get? T=some oT/\oT.cls=.type "traceback" /\ oT.data=.fields ts/\3 < ts.size) (hand:HandOk (some (.ref e)) h)
inductive CallPost (B:Bs) (H:Hp) (s:Shared) (Q:D->Hp->Prop) (v:Value) (s':Shared):Prop
 | mk (d:D) (H':Hp) (r:Rep B s'.heap d v) (c:ConcH B H' s'.heap) (b:B.base.StaysIn s'.heap) (k:Keep noOwn H s H' s') (q:Q d H')
inductive CallExc (B:Bs) (H:Hp) (s:Shared) (X:Nat->Hp->Prop) (e:Value) (s':Shared):Prop
 | mk (k:Nat) (H':Hp) (a:Addr) (e1:e=.ref a) (x:ExcOk B s.heap.objs.size a k s'.heap) (c:ConcH B H' s'.heap) (b:B.base.StaysIn s'.heap) (kp:Keep noOwn H s H' s') (q:X k H')
noncomputable def CallS (prog:Program) (w:World) (B:Bs) (n:Nat):CallT:=fun f ds H Q X=>
 ∀A s vals,AOk B A n H s.heap->ConcH B H s.heap->B.base.StaysIn s.heap->RepL B s.heap ds vals ->
  wpAny (model prog w) A (call (.ref (B.fa f)) vals) (CallPost B H s Q) (CallExc B H s X) s
inductive EPost (B:Bs) (env:Env) (vs:List Str) (loc:Loc) (H:Hp) (s:Shared) (Q:D->Hp->Prop) (v:Value) (s':Shared):Prop
 | mk (d:D) (H':Hp) (r:Rep B s'.heap d v) (c:Conc B env vs loc H' s') (k:Keep noOwn H s H' s') (q:Q d H')
inductive EExc (B:Bs) (env:Env) (vs:List Str) (loc:Loc) (H:Hp) (s:Shared) (X:Nat->Hp->Prop) (e:Value) (s':Shared):Prop
 | mk (k:Nat) (H':Hp) (a:Addr) (e1:e=.ref a) (x:ExcOk B s.heap.objs.size a k s'.heap) (c:Conc B env vs loc H' s') (kp:Keep noOwn H s H' s') (q:X k H')
inductive EsPost (B:Bs) (env:Env) (vs:List Str) (loc:Loc) (H:Hp) (s:Shared) (Q:List D->Hp->Prop) (v:List Value) (s':Shared):Prop
 | mk (d:List D) (H':Hp) (r:RepL B s'.heap d v) (c:Conc B env vs loc H' s') (k:Keep noOwn H s H' s') (q:Q d H')
end Mine
set_option Elab.async false
namespace Mine
open PySem PyProof.Rows
section
variable {prog:Program} {w:World} {B:Bs} {A:Around} {E:Value->Shared->Prop} {s:Shared} {H:Hp} {Q:D->Hp->Prop}
theorem Keep.same {own:Addr->Prop} {H:Hp} {s s':Shared} (hh:s'.heap=s.heap) (hg:s'.gens=s.gens) (ho:s'.os=s.os):Keep own H s H s':=
 .grow (fun a o e=>by rw [hh];exact e) (by rw [hh];exact Nat.le_refl _) hg ho
theorem post_same {d:D} {v:Value} {s':Shared} (C:ConcH B H s.heap) (hb:B.base.StaysIn s.heap) (hd:Rep B s.heap d v) (hq:Q d H) (hh:s'.heap=s.heap) (hg:s'.gens=s.gens:=by rfl) (ho:s'.os=s.os:=by rfl):CallPost B H s Q v s':=
 ⟨d,H,by rw [hh];exact hd,by rw [hh];exact C,by rw [hh];exact hb,.same hh hg ho,hq⟩
theorem push_keep {h:Heap} (o:Obj):∀a o',h.get? a=some o'->(h.push o).get? a=some o':=fun _ _ e=>Heap.get?_push_of_some o e
theorem push_size_le {h:Heap} (o:Obj):h.objs.size<=(h.push o).objs.size:=by rw [Heap.size_push];exact jk6
theorem post_grow {d:D} {v:Value} {s':Shared} (C:ConcH B H s.heap) (hb:B.base.StaysIn s.heap) (k:∀a o,s.heap.get? a=some o->s'.heap.get? a=some o) (hs:s.heap.objs.size<=s'.heap.objs.size)
  (hd:Rep B s'.heap d v) (hq:Q d H) (hg:s'.gens=s.gens:=by rfl) (ho:s'.os=s.os:=by rfl):CallPost B H s Q v s':=
 ⟨d,H,hd,C.grow k,fun a o e=>k a o (hb a o e),.grow k hs hg ho,hq⟩
theorem base_fresh {h:Heap} (hb:B.base.StaysIn h):B.base.get? h.objs.size=none:=hb.fresh
theorem concH_newlist {h:Heap} {vs:Array Value} {ds:List D} (C:ConcH B H h) (hb:B.base.StaysIn h) (hr:RepL B h ds vs.toList) (hz:vs.size<=SZ) :
  ConcH B (H.set h.objs.size (.list ds)) (h.push { cls:=.type "list",data:=.seq vs }):=by
 intro a ob e
 by_cases q:a=h.objs.size
 ·subst q
  rw [Hp.set_self] at e;cases e
  exact ⟨⟨vs,0,IsL.new h vs,hz,hr.pres (.grow (push_keep _))⟩,base_fresh hb⟩
 ·rw [Hp.set_other _ _ q] at e
  obtain ⟨x,y⟩:=C a ob e
  refine ⟨x.pres (.grow (push_keep _)) (fun o g=>push_keep _ a o g) fun d t qq=>?_,y⟩
  subst qq
  have hd:=RoAt.aux x
  refine ⟨?_,fun o g=>push_keep _ d o g⟩
  rw [Hp.set_other];exact hd
  intro z;subst z;rw [C.fresh] at hd;cases hd
theorem keep_new {own:Addr->Prop} {s s':Shared} {ob:HObj} (k:∀a o,s.heap.get? a=some o->s'.heap.get? a=some o) (hs:s.heap.objs.size<=s'.heap.objs.size) (hg:s'.gens=s.gens:=by rfl) (ho:s'.os=s.os:=by rfl) :
  Keep own H s (H.set s.heap.objs.size ob) s':=
 ⟨fun a o e hn _=>⟨⟨o,k a o e,.refl o⟩,by rw [Hp.set_other];exact hn;exact Nat.ne_of_lt (Heap.lt_size e)⟩,hs,hg,ho⟩
theorem post_newlist {vs:Array Value} {ds:List D} {tk:Nat} (C:ConcH B H s.heap) (hb:B.base.StaysIn s.heap) (hr:RepL B s.heap ds vs.toList) (hz:ds.length<=SZ)
  (hq:∀c,H c=none->Q (.ref c) (H.set c (.list ds))):CallPost B H s Q (.ref s.heap.objs.size) { s with heap:=s.heap.push { cls:=.type "list",data:=.seq vs },toks:=tk }:=
 ⟨.ref s.heap.objs.size,H.set s.heap.objs.size (.list ds),by simp only [Rep],concH_newlist C hb hr (by have:=hr.length;simp only [Array.length_toList] at this;exact jk7 this hz),
  fun a o e=>push_keep _ a o (hb a o e),keep_new (push_keep _) (push_size_le _),hq _ C.fresh⟩
theorem rep_newtuple {h:Heap} {vs:Array Value} {ds:List D} (hr:RepL B h ds vs.toList) (hz:ds.length<=SZ):Rep B (h.push { cls:=.type "tuple",data:=.seq vs }) (.tup ds) (.ref h.objs.size):=by
 simp only [Rep]
 exact ⟨_,vs,0,rfl,IsT.new h vs,by have:=hr.length;simp only [Array.length_toList] at this;exact jk7 this hz,hr.pres (.grow (push_keep _))⟩
theorem ConcH.list {a:Addr} {l:List D} (C:ConcH B H s.heap) (e:H a=some (.list l)):∃vs n,IsL s.heap a vs n/\vs.size<=SZ/\vs.size=l.length/\RepL B s.heap l vs.toList:=by
 obtain ⟨⟨vs,n,h1,h2,h3⟩,_⟩:=C a _ e
 exact ⟨vs,n,h1,h2,by have:=h3.length;simpa using this,h3⟩
theorem sz_line:SZ+SZ<=sizeLine:=by decide
theorem intMulOk {a b:Int} (h:MulOk a b):IntMulOk a b:=by
 unfold IntMulOk
 have key:∀x:Int,x.natAbs < 2 ^ 64->¬Builtin.Int.intBits x > shortFactorBits:=by
  intro x hx
  unfold Builtin.Int.intBits shortFactorBits
  split
  ·exact Nat.not_lt_of_le (jl0 (jc1 0) (jK 0) (jK 64) rfl)
  ·rename_i hne
   have:x.natAbs≠0:=by intro q;apply hne;simp;omega
   have:=(Nat.log2_lt this).mpr hx
   exact Nat.not_lt_of_le (jl1 (jc1 _) (jA j0 (jK 1)) (jK 64) (jA j0 (jK 1)) (jK 64) rfl this)
 rcases h with h | h
 ·have:=key a h;simp [this]
 ·have:=key b h;simp [this]
theorem fdiv_pos {a b:Int} (h:0 < b):a.fdiv b=a / b:=by rw [Int.fdiv_eq_ediv_of_nonneg _ (Int.le_of_lt h)]
theorem fmod_pos {a b:Int} (h:0 < b):a.fmod b=a % b:=by rw [Int.fmod_eq_emod_of_nonneg _ (Int.le_of_lt h)]
theorem short_div {a b:Int} (h0:0 < b) (h:b < 2 ^ 64):¬(Builtin.divisionGoesByPylong a b)=true:=by
 unfold Builtin.divisionGoesByPylong
 have hb:b.natAbs.log2 < 64:=(Nat.log2_lt (by omega)).mpr (by omega)
 have hne:¬(b==0)=true:=by simp;exact jk46 h0
 intro q
 simp only [Bool.and_eq_true,decide_eq_true_eq] at q
 have:=q.1
 rw [if_neg hne] at this
 omega
theorem cps_append (l m:List Nat):(⟨l.toArray⟩:Str)++(⟨m.toArray⟩:Str)=⟨(l++m).toArray⟩:=by
 show Str.mk _=_
 simp
theorem repL_rep {h:Heap} {ds:List D} {vs:List Value} (hr:RepL B h ds vs):∀k:Nat,RepL B h (List.replicate k ds).flatten (List.replicate k vs).flatten
 | 0=>by simp only [List.replicate_zero,List.flatten_nil];simp only [RepL]
 | k+1=>by rw [List.replicate_succ,List.replicate_succ,List.flatten_cons,List.flatten_cons];exact hr.append (repL_rep hr k)
theorem mul_list' {l:Addr} {vs:Array Value} {n:Nat} {x:Int} {u:Tok} {R:Value->Shared->Prop} (hl:IsL s.heap l vs n) (hlo:-(2 ^ 63:Int)<=x) (hhi:x < 2 ^ 63) (hsz:vs.size*x.toNat<=2 ^ 24)
  (h:R (.ref s.heap.objs.size) { s with heap:=s.heap.push { cls:=.type "list",data:=.seq (List.replicate x.toNat vs.toList).flatten.toArray } }):wpAny (model prog w) A (binaryOp .Mult (.ref l) (.int x u)) R E s:=by
 refine wpAny_binaryOp_repeat_ref (T:= "list") (U:= "int") (by decide) ⟨_,hl,rfl⟩ (fun s'=>typeIs_int s' x u) noFill_list_mul F.fills_int_mul F.slot_int_rmul repeat_list F.slot_int_index.lookup
  (call_meets F.slot_int_rmul (typeIs_int s x u) F.entry_int_rmul (F.args_int_rmul_2 _ _) (lm_int_rmul_list_any x u l vs n _ _)
   ⟨hl,rfl,⟨_,hl,rfl⟩,call_meets F.slot_list_mul ⟨_,hl,rfl⟩ F.entry_list_mul (F.args_list_mul_2 _ _)
    (lm_list_mul_any l vs n _ _ x u (by simp [Builtin.List.listFitsIndex];exact ⟨ul1 (uc1 _) (uN (uK 9223372036854775808)) u0 (uN (uK 9223372036854775808)) u0 rfl hlo,ul1 (uc1 _) (uA u0 (uK 1)) (uK 9223372036854775808) (uA u0 (uK 1)) (uK 9223372036854775808) rfl hhi⟩) (by omega) (by simp [Builtin.List.listTooLong,sizeLine];exact jl1 (jc1 _) j0 (jK 16777216) j0 (jK 16777216) rfl hsz))
    ⟨hl,?_⟩⟩)
 rw [listMul_foldl_if]
 exact h
theorem reps_eq (l:List Nat):∀(k:Nat) (acc:List Nat),(List.replicate k l.toArray).foldl (·++·) acc.toArray=(acc++(List.replicate k l).flatten).toArray
 | 0,acc=>by simp
 | k+1,acc=>by
  rw [List.replicate_succ,List.replicate_succ,List.foldl_cons,List.flatten_cons,<-List.append_assoc,<-reps_eq l k (acc++l),List.append_toArray]
theorem mul_str' {l:List Nat} {n:Int} {t u:Tok} {R:Value->Shared->Prop} (h0:0<=n) (h1:n < 1000000) (hz:l.length*n.toNat<=SZ) (h:∀t' tk,R (.str ⟨(List.replicate n.toNat l).flatten.toArray⟩ t') { s with toks:=tk }) :
  wpAny (model prog w) A (binaryOp .Mult (.str ⟨l.toArray⟩ t) (.int n u)) R E s:=by
 have hlen:(⟨l.toArray⟩:Str).length=l.length:=rfl
 have hl:Builtin.Str.tooLong ((⟨l.toArray⟩:Str).length*n.toNat)=false:=decide_eq_false (Nat.not_lt.mpr (Nat.le_trans hz SZ_le))
 refine P.mul_str (by rw [decide_eq_false (by exact Int.not_lt.mpr (ul1 (uc1 _) (uK 0) u0 (uN (uK 9223372036854775808)) u0 rfl h0)),decide_eq_false (by exact Int.not_le.mpr (ul1 (uc1 _) (uA u0 (uK 1)) (uK 1000000) (uA u0 (uK 1)) (uK 9223372036854775808) rfl h1))];rfl) (fun a _=>?_) (fun _ _=>hl) ?_
 ·refine Int.not_lt.mpr ((Int.le_ediv_iff_mul_le (by exact ul1 (uc1 _) (uK 1) u0 (uA (uK 0) (uK 1)) u0 rfl (Int.not_lt.mp a))).mpr ?_)
  have e:((l.length:Nat):Int)*n=((l.length*n.toNat:Nat):Int):=by rw [Int.natCast_mul,Int.toNat_of_nonneg h0]
  have hSZ:SZ=1000000:=rfl
  rw [hlen,e];exact ul2 (uc2 ((_:Nat):Int) ((_:Nat):Int)) u0 u1 u1 (uK 1000000) u0 (uS (uK 9223372036854775808) (uK 1)) rfl (Int.ofNat_le.mpr hz) (Int.ofNat_le.mpr (Nat.le_of_eq hSZ))
 ·by_cases a:n < 1
  ·rw [if_pos a]
   obtain rfl:n=0:=by exact Int.le_antisymm (ul1 (uc1 _) (uA u0 (uK 1)) (uK 1) u0 (uK 0) rfl a) (ul1 (uc1 _) (uK 0) u0 (uK 0) u0 rfl h0)
   exact ⟨Nat.zero_le _,h _ _⟩
  ·rw [if_neg a]
   by_cases b:(n==1||(⟨l.toArray⟩:Str).length==0)=true
   ·rw [if_pos b]
    have e:(List.replicate n.toNat l).flatten=l:=by
     rcases Bool.or_eq_true_iff.mp b with q | q
     ·rw [eq_of_beq q];exact List.append_nil l
     ·obtain rfl:l=[]:=List.length_eq_zero_iff.mp (eq_of_beq q)
      generalize n.toNat=k
      induction k with
      | zero=>rfl
      | succ k ih=>rw [List.replicate_succ,List.flatten_cons,ih];rfl
    have:=h t s.toks
    rw [e] at this
    exact this
   ·rw [if_neg b]
    refine ⟨fits_reps hl,?_⟩
    have:=reps_eq l n.toNat []
    show R (.str ⟨(List.replicate n.toNat l.toArray).foldl (·++·) (([]:List Nat).toArray)⟩ _) _
    rw [this]
    exact h _ _
theorem bin_sound {o:Op} {o':Operator} {x y:D} {a b:Value} (ho:opOk o o'=true) (h:vBin o x y H Q) (hx:Rep B s.heap x a) (hy:Rep B s.heap y b) (C:ConcH B H s.heap) (hb:B.base.StaysIn s.heap) :
  wpAny (model prog w) A (binaryOp o' a b) (CallPost B H s Q) E s:=by
 obtain rfl:=opOk_eq ho
 clear ho
 revert hx hy
 cases o with
 | add=>
  have h:vAdd x y H Q:=h
  cases x <;> try exact False.elim h
  ·refine inv_ki h fun j h=>?_
   intro hx hy
   simp only [Rep] at hx hy
   obtain ⟨t,rfl⟩:=hx;obtain ⟨u,rfl⟩:=hy
   exact AutoIntOps.add_0 (post_same C hb rep_int h rfl)
  ·refine inv_ks h fun j h=>?_
   intro hx hy
   simp only [Rep] at hx hy
   obtain ⟨_,c1,t,rfl⟩:=hx;obtain ⟨_,c2,u,rfl⟩:=hy
   refine PyProof.Rows.add_str (fun t' tk=>?_) (by have:=h.1;have:=SZ_le;simp only [Str.length,List.size_toArray];omega)
   rw [cps_append]
   exact post_same C hb (by simp only [Rep];exact ⟨by simpa using h.1,fun c hc=>(List.mem_append.mp hc).elim (c1 c) (c2 c),_,rfl⟩) h.2 rfl
  ·refine inv_kr h fun j h=>?_
   intro hx hy
   simp only [Rep] at hx hy
   subst hx;subst hy
   obtain ⟨l,m,e1,e2,hz,hq⟩:=h
   obtain ⟨vs,n,g1,z1,q1,r1⟩:=C.list e1
   obtain ⟨ws,n2,g2,z2,q2,r2⟩:=C.list e2
   refine P.add_list g1 g2 (post_newlist (tk:=s.toks) C hb ?_ (by simpa using hz) hq) (by have:=sz_line;exact jl3 (jc6 _ _ _ _ _ _) j0 j4 j1 j5 (jA (jA j3 j3) (jA j4 j5)) (jA j2 j3) (jA j0 j1) j2 rfl (Nat.le_of_eq q1) (Nat.le_of_eq q2) (Nat.add_le_add this hz))
   rw [Array.toList_append];exact r1.append r2
 | sub=>
  refine inv_ki h fun i h=>?_
  refine inv_ki h fun j h=>?_
  intro hx hy
  simp only [Rep] at hx hy
  obtain ⟨t,rfl⟩:=hx;obtain ⟨u,rfl⟩:=hy
  exact AutoIntOps.sub_0 (post_same C hb rep_int h rfl)
 | mul=>
  have h:vMul x y H Q:=h
  cases x <;> try exact False.elim h
  ·refine inv_ki h fun j h=>?_
   intro hx hy
   simp only [Rep] at hx hy
   obtain ⟨t,rfl⟩:=hx;obtain ⟨u,rfl⟩:=hy
   exact AutoIntOps.mul_0 (post_same C hb rep_int h.2 rfl) (intMulOk h.1)
  ·refine inv_ki h fun j h=>?_
   intro hx hy
   simp only [Rep] at hx hy
   obtain ⟨_,c1,t,rfl⟩:=hx;obtain ⟨u,rfl⟩:=hy
   refine mul_str' h.2.1 h.2.2.1 h.1 fun t' tk=>post_same C hb ?_ h.2.2.2 rfl
   simp only [Rep]
   refine ⟨?_,fun c hc=>?_,_,rfl⟩
   ·rw [lm_len_rep_flat,Nat.mul_comm];exact h.1
   ·obtain ⟨m,hm,hc⟩:=List.mem_flatten.mp hc
    rw [List.eq_of_mem_replicate hm] at hc
    exact c1 c hc
  ·refine inv_ki h fun j h=>?_
   intro hx hy
   simp only [Rep] at hx hy
   subst hx;obtain ⟨u,rfl⟩:=hy
   obtain ⟨l,e1,hz,hk0,hk,hq⟩:=h
   obtain ⟨vs,n,g1,z1,q1,r1⟩:=C.list e1
   have hz':vs.size*j.toNat<=SZ:=by rw [q1];exact hz
   have hsz:SZ=1000000:=rfl
   refine mul_list' g1 (by exact ul1 (uc1 _) (uK 0) u0 (uN (uK 9223372036854775808)) u0 rfl hk0) (by exact ul1 (uc1 _) (uA u0 (uK 1)) (uK 1000000) (uA u0 (uK 1)) (uK 9223372036854775808) rfl hk) (by exact jl2 (jc2 _ _) j0 j1 j1 (jK 1000000) j0 (jK 16777216) rfl hz' (Nat.le_of_eq hsz)) (post_newlist (tk:=s.toks) C hb (repL_rep r1 _) ?_ hq)
   rw [lm_len_rep_flat,Nat.mul_comm];exact hz
 | fdiv=>
  refine inv_ki h fun i h=>?_
  refine inv_ki h fun j h=>?_
  intro hx hy
  simp only [Rep] at hx hy
  obtain ⟨t,rfl⟩:=hx;obtain ⟨u,rfl⟩:=hy
  refine AutoIntOps.floordiv_1 (by simp;have:=h.1;omega) (short_div h.1 h.2.1) ?_
  rw [fdiv_pos h.1]
  exact post_same C hb rep_int h.2.2 rfl
 | mod=>
  refine inv_ki h fun i h=>?_
  refine inv_ki h fun j h=>?_
  intro hx hy
  simp only [Rep] at hx hy
  obtain ⟨t,rfl⟩:=hx;obtain ⟨u,rfl⟩:=hy
  refine AutoIntOps.mod_1 (by simp;have:=h.1;omega) ?_
  rw [fmod_pos h.1]
  exact post_same C hb rep_int h.2 rfl
end
end Mine
set_option Elab.async false
namespace Mine
open PySem PyProof.Rows
mutual
noncomputable def py:D->PyData
 | .none=>.none
 | .bool b=>.bool b
 | .int i=>.int i
 | .str l=>.str ⟨l.toArray⟩
 | .tup l=>.tuple (pys l)
 | _=>.none
noncomputable def pys:List D->List PyData
 | []=>[]
 | d::ds=>py d::pys ds
end
mutual
theorem eqv_py:∀{n m:Nat} {a b:D},okF n a=true->okF m b=true->PyData.eqv (py a) (py b)=eqv0 a b
 | _,_,.none,.none,_,_=>rfl
 | _,_,.none,.bool _,_,_=>rfl
 | _,_,.none,.int _,_,_=>rfl
 | _,_,.none,.str _,_,_=>rfl
 | _,_,.none,.tup _,_,_=>rfl
 | _,_,.bool _,.none,_,_=>rfl
 | _,_,.bool _,.bool _,_,_=>rfl
 | _,_,.bool _,.int _,_,_=>rfl
 | _,_,.bool _,.str _,_,_=>rfl
 | _,_,.bool _,.tup _,_,_=>rfl
 | _,_,.int _,.none,_,_=>rfl
 | _,_,.int _,.bool _,_,_=>rfl
 | _,_,.int _,.int _,_,_=>rfl
 | _,_,.int _,.str _,_,_=>rfl
 | _,_,.int _,.tup _,_,_=>rfl
 | _,_,.str _,.none,_,_=>rfl
 | _,_,.str _,.bool _,_,_=>rfl
 | _,_,.str _,.int _,_,_=>rfl
 | _,_,.str a,.str b,_,_=>by
  show ((⟨a.toArray⟩:Str)==⟨b.toArray⟩)=(a==b)
  rw [Bool.eq_iff_iff];simp
 | _,_,.str _,.tup _,_,_=>rfl
 | _,_,.tup _,.none,_,_=>rfl
 | _,_,.tup _,.bool _,_,_=>rfl
 | _,_,.tup _,.int _,_,_=>rfl
 | _,_,.tup _,.str _,_,_=>rfl
 | n+1,m+1,.tup a,.tup b,ha,hb=>by
  show PyData.eqvAll (pys a) (pys b)=eqvs0 a b
  exact eqvs_py (List.all_eq_true.mp ha) (List.all_eq_true.mp hb)
 | 0,_,.tup _,.tup _,ha,_=>absurd ha Bool.false_ne_true
 | _,0,.tup _,.tup _,_,hb=>absurd hb Bool.false_ne_true
 | n,_,.ref _,_,ha,_=>by cases n <;> exact absurd ha Bool.false_ne_true
 | n,_,.scr,_,ha,_=>by cases n <;> exact absurd ha Bool.false_ne_true
 | n,_,.exc _ _,_,ha,_=>by cases n <;> exact absurd ha Bool.false_ne_true
 | n,_,.cls _,_,ha,_=>by cases n <;> exact absurd ha Bool.false_ne_true
 | n,_,.rng _ _,_,ha,_=>by cases n <;> exact absurd ha Bool.false_ne_true
 | _,m,_,.ref _,_,hb=>by cases m <;> exact absurd hb Bool.false_ne_true
 | _,m,_,.scr,_,hb=>by cases m <;> exact absurd hb Bool.false_ne_true
 | _,m,_,.exc _ _,_,hb=>by cases m <;> exact absurd hb Bool.false_ne_true
 | _,m,_,.cls _,_,hb=>by cases m <;> exact absurd hb Bool.false_ne_true
 | _,m,_,.rng _ _,_,hb=>by cases m <;> exact absurd hb Bool.false_ne_true
theorem eqvs_py:∀{n m:Nat} {a b:List D},(∀x∈a,okF n x=true)->(∀x∈b,okF m x=true)->PyData.eqvAll (pys a) (pys b)=eqvs0 a b
 | _,_,[],[],_,_=>rfl
 | _,_,[],_::_,_,_=>rfl
 | _,_,_::_,[],_,_=>rfl
 | _,_,a::as,b::bs,ha,hb=>by
  show (PyData.eqv (py a) (py b)&&PyData.eqvAll (pys as) (pys bs))=(eqv0 a b&&eqvs0 as bs)
  rw [eqv_py (ha a (.head _)) (hb b (.head _)),eqvs_py (fun x hx=>ha x (.tail _ hx)) (fun x hx=>hb x (.tail _ hx))]
end
section
variable {prog:Program} {w:World} {B:Bs} {A:Around} {E:Value->Shared->Prop} {s:Shared} {H:Hp}
mutual
theorem reads_py {h:Heap}:∀{n:Nat} {d:D} {v:Value},okF n d=true->Rep B h d v->∃as,Reads h v (py d) as
 | _,.none,_,_,r=>by simp only [Rep] at r;subst r;exact ⟨_,.none⟩
 | _,.bool b,_,_,r=>by simp only [Rep] at r;subst r;exact ⟨_,.bool b⟩
 | _,.int i,_,_,r=>by simp only [Rep] at r;obtain ⟨t,rfl⟩:=r;exact ⟨_,.int i t⟩
 | _,.str l,_,_,r=>by simp only [Rep] at r;obtain ⟨_,_,t,rfl⟩:=r;exact ⟨_,.str _ t⟩
 | n+1,.tup l,_,ho,r=>by
  simp only [Rep] at r
  obtain ⟨a,vs,k,rfl,g,hz,hr⟩:=r
  replace ho:=List.all_eq_true.mp ho
  obtain ⟨as,q⟩:=readsAll_py ho hr
  exact ⟨as,.tuple g rfl rfl q⟩
 | 0,.tup _,_,ho,_=>absurd ho Bool.false_ne_true
 | n,.ref _,_,ho,_=>by cases n <;> exact absurd ho Bool.false_ne_true
 | n,.scr,_,ho,_=>by cases n <;> exact absurd ho Bool.false_ne_true
 | n,.exc _ _,_,ho,_=>by cases n <;> exact absurd ho Bool.false_ne_true
 | n,.cls _,_,ho,_=>by cases n <;> exact absurd ho Bool.false_ne_true
 | n,.rng _ _,_,ho,_=>by cases n <;> exact absurd ho Bool.false_ne_true
theorem readsAll_py {h:Heap}:∀{n:Nat} {ds:List D} {vs:List Value},(∀x∈ds,okF n x=true)->RepL B h ds vs->∃as,ReadsAll h vs (pys ds) as
 | _,[],_,_,r=>by simp only [RepL] at r;subst r;exact ⟨_,.nil⟩
 | _,d::ds,_,ho,r=>by
  simp only [RepL] at r
  obtain ⟨v,vs,rfl,h1,h2⟩:=r
  obtain ⟨as,q⟩:=reads_py (ho d (.head _)) h1
  obtain ⟨bs,p⟩:=readsAll_py (fun x hx=>ho x (.tail _ hx)) h2
  exact ⟨_,.cons q p⟩
end
mutual
theorem lay_py {h:Heap}:∀{n:Nat} {d:D} {v:Value},okF n d=true->Rep B h d v->(py d).canLay0=true/\(py d).depth<=n
 | _,.none,_,_,_=>by simp [py,PyData.canLay0,PyData.depth]
 | _,.bool _,_,_,_=>by simp [py,PyData.canLay0,PyData.depth]
 | _,.int _,_,_,_=>by simp [py,PyData.canLay0,PyData.depth]
 | _,.str l,_,_,r=>by
  simp only [Rep] at r
  simp only [py,PyData.canLay0,PyData.depth,PyData.strOk]
  refine ⟨?_,Nat.zero_le _⟩
  simp only [List.all_toArray,List.all_eq_true,decide_eq_true_eq]
  intro c hc;have:=r.2.1 c hc;exact jl1 (jc1 _) (jA j0 (jK 1)) (jK 128) (jA j0 (jK 1)) (jK 1114112) rfl this
 | n+1,.tup l,_,ho,r=>by
  simp only [Rep] at r
  obtain ⟨a,vs,k,rfl,g,hz,hr⟩:=r
  replace ho:=List.all_eq_true.mp ho
  obtain ⟨q1,q2⟩:=layAll_py ho hr
  simp only [py,PyData.canLay0,PyData.depth]
  exact ⟨q1,by exact jl1 (jc2 _ _) j0 j1 (jA j0 (jK 1)) (jA j1 (jK 1)) rfl q2⟩
 | 0,.tup _,_,ho,_=>absurd ho Bool.false_ne_true
 | n,.ref _,_,ho,_=>by cases n <;> exact absurd ho Bool.false_ne_true
 | n,.scr,_,ho,_=>by cases n <;> exact absurd ho Bool.false_ne_true
 | n,.exc _ _,_,ho,_=>by cases n <;> exact absurd ho Bool.false_ne_true
 | n,.cls _,_,ho,_=>by cases n <;> exact absurd ho Bool.false_ne_true
 | n,.rng _ _,_,ho,_=>by cases n <;> exact absurd ho Bool.false_ne_true
theorem layAll_py {h:Heap}:∀{n:Nat} {ds:List D} {vs:List Value},(∀x∈ds,okF n x=true)->RepL B h ds vs->PyData.canLayAll0 (pys ds)=true/\PyData.depthAll (pys ds)<=n
 | _,[],_,_,_=>by simp [pys,PyData.canLayAll0,PyData.depthAll]
 | _,d::ds,_,ho,r=>by
  simp only [RepL] at r
  obtain ⟨v,vs,rfl,h1,h2⟩:=r
  obtain ⟨a1,a2⟩:=lay_py (ho d (.head _)) h1
  obtain ⟨b1,b2⟩:=layAll_py (fun x hx=>ho x (.tail _ hx)) h2
  simp only [pys,PyData.canLayAll0,PyData.depthAll,a1,b1,Bool.and_self,true_and]
  omega
end
theorem any_py {x:D} (hx:okF 8 x=true):∀(l:List D),(∀y∈l,okF 8 y=true)->((pys l).any fun y=>PyData.eqv y (py x))=l.any fun y=>eqv0 y x
 | [],_=>rfl
 | y::ys,h=>by
  simp only [pys,List.any_cons]
  rw [eqv_py (h y (.head _)) hx,any_py hx ys fun z hz=>h z (.tail _ hz)]
theorem none_ne {d:D} {v:Value} {h:Heap} (r:Rep B h d v) (hn:d≠.none) (hc:∀c,d≠.cls c):v≠.none:=by
 rintro rfl
 cases d <;> simp_all [Rep]
theorem cm_is {o':CmpOp} (h:cmOk .is o'=true):o'=.Is:=by cases o' <;> first | rfl | cases h
theorem cm_isnot {o':CmpOp} (h:cmOk .isnot o'=true):o'=.IsNot:=by cases o' <;> first | rfl | cases h
theorem cm_in {o':CmpOp} (h:cmOk .inn o'=true):o'=.In:=by cases o' <;> first | rfl | cases h
theorem cm_notin {o':CmpOp} (h:cmOk .notin o'=true):o'=.NotIn:=by cases o' <;> first | rfl | cases h
theorem cm_eq {o':CmpOp} (h:cmOk .eq o'=true):o'=.Eq:=by cases o' <;> first | rfl | cases h
theorem cm_ne {o':CmpOp} (h:cmOk .ne o'=true):o'=.NotEq:=by cases o' <;> first | rfl | cases h
theorem cm_lt {o':CmpOp} (h:cmOk .lt o'=true):o'=.Lt:=by cases o' <;> first | rfl | cases h
theorem cm_le {o':CmpOp} (h:cmOk .le o'=true):o'=.LtE:=by cases o' <;> first | rfl | cases h
theorem cm_gt {o':CmpOp} (h:cmOk .gt o'=true):o'=.Gt:=by cases o' <;> first | rfl | cases h
theorem cm_ge {o':CmpOp} (h:cmOk .ge o'=true):o'=.GtE:=by cases o' <;> first | rfl | cases h
theorem noSome {r:Bool} {P:Prop} (h:(none:Option Bool)=some r):P:=nomatch h
theorem in_text {m l:List Nat} {q:Bool} {H:Hp} (h:vIn (.str m) (.str l) H=some q):(!(Builtin.Str.occurrences (⟨l.toArray⟩:Str) ⟨m.toArray⟩ 0 (⟨l.toArray⟩:Str).length 1).isEmpty)=q:=by
 have long:m.all l.contains=false->(!(Builtin.Str.occurrences (⟨l.toArray⟩:Str) ⟨m.toArray⟩ 0 (⟨l.toArray⟩:Str).length 1).isEmpty)=false:=fun hm=>by
  refine Bool.eq_false_iff.mpr fun e=>?_
  obtain ⟨i,_,hs⟩:=(StrLaws.found_iff _ _).mp e
  rw [StrLaws.subAt_eq] at hs
  have hs:(l.drop i).take m.length=m:=eq_of_beq hs
  have:m.all l.contains=true:=List.all_eq_true.mpr fun c hc=>List.contains_iff_mem.mpr (by rw [<-hs] at hc;exact List.mem_of_mem_drop (List.mem_of_mem_take hc))
  rw [hm] at this;cases this
 have other:(if m.all l.contains=true then none else some false:Option Bool)=some q->(!(Builtin.Str.occurrences (⟨l.toArray⟩:Str) ⟨m.toArray⟩ 0 (⟨l.toArray⟩:Str).length 1).isEmpty)=q:=fun h=>by
  split at h
  ·cases h
  ·rename_i hm;cases h;exact long (Bool.eq_false_iff.mpr hm)
 match m,h,other with
 | [],h,other=>exact other h
 | [c],h,_=>cases h;rw [StrLaws.found_one,Bool.eq_iff_iff];simp
 | _::_::_,h,other=>exact other h
section
variable {x y:D} {r:Bool}
@[elab_as_elim] theorem inv_cmpI {f:Int->Int->Bool} {P:D->D->Prop} (h:cmpI f x y=some r) (c:∀a b,f a b=r->P (.int a) (.int b)):P x y:=by
 cases x <;> try exact noSome h
 cases y <;> try exact noSome h
 exact c _ _ (Option.some.inj h)
theorem cmpN_eq {q:Bool} (h:cmpN y q=some r):y=.none/\r=q:=by
 cases y <;> try exact noSome h
 exact ⟨rfl,(Option.some.inj h).symm⟩
theorem isRef_eq {a:Addr} (h:isRef x=some a):x=.ref a:=by
 cases x <;> first | exact congrArg D.ref (Option.some.inj h) | cases h
theorem inv_eqD {P:D->D->Prop} (h:eqD H x y=some r) (c1:∀i j,eqL (H i) (H j)=some r->P (.ref i) (.ref j)) (c2:okF 8 x=true->okF 8 y=true->eqv0 x y=r->P x y):P x y:=by
 unfold eqD at h
 cases h1:isRef x with
 | some i=>
  rw [h1] at h
  cases h2:isRef y with
  | some j=>rw [h2] at h;rw [isRef_eq h1,isRef_eq h2];exact c1 i j h
  | none=>rw [h2] at h;cases h
 | none=>
  rw [h1] at h
  have h:(if (okF 8 x&&okF 8 y)=true then some (eqv0 x y) else none)=some r:=h
  by_cases q:(okF 8 x&&okF 8 y)=true
  ·rw [if_pos q] at h
   have q:=Bool.and_eq_true_iff.mp q
   exact c2 q.1 q.2 (Option.some.inj h)
  ·rw [if_neg q] at h;cases h
theorem eqL_lists {p q:Option HObj} (h:eqL p q=some r):∃l m,p=some (.list l)/\q=some (.list m):=by
 rcases p with _ | ⟨l⟩ | _ | _ <;> try exact noSome h
 rcases q with _ | ⟨m⟩ | _ | _ <;> try exact noSome h
 exact ⟨l,m,rfl,rfl⟩
theorem inv_eqL {p q:Option HObj} {P:Prop} (h:eqL p q=some r) (c:∀l m,p=some (.list l)->q=some (.list m)->(l.length≠m.length->r=false->P)/\(l.all (okF 8)=true->m.all (okF 8)=true->eqvs0 l m=r->P)):P:=by
 obtain ⟨l,m,hp,hq⟩:=eqL_lists h
 have c:=c l m hp hq
 rw [hp,hq] at h
 have h:(if l.length≠m.length then some false else if (l.all (okF 8)&&m.all (okF 8))=true then some (eqvs0 l m) else none)=some r:=h
 by_cases n:l.length≠m.length
 ·rw [if_pos n] at h;exact c.1 n (Option.some.inj h).symm
 ·rw [if_neg n] at h
  by_cases q:(l.all (okF 8)&&m.all (okF 8))=true
  ·rw [if_pos q] at h
   have q:=Bool.and_eq_true_iff.mp q
   exact c.2 q.1 q.2 (Option.some.inj h)
  ·rw [if_neg q] at h;cases h
theorem inv_vIn {P:D->D->Prop} (h:vIn x y H=some r) (c1:∀m l,vIn (.str m) (.str l) H=some r->P (.str m) (.str l)) (c2:∀l,memD x l=some r->P x (.tup l)) (c3:∀i l,H i=some (.list l)->memD x l=some r->P x (.ref i)):P x y:=by
 cases y <;> try exact noSome h
 ·cases x <;> try exact noSome h
  exact c1 _ _ h
 ·exact c2 _ h
 ·rename_i i
  have h:(match H i with | some (.list l)=>memD x l | _=>none)=some r:=h
  cases e:H i with
  | none=>rw [e] at h;cases h
  | some o=>
   rw [e] at h
   cases o with
   | list l=>exact c3 i l e h
   | robj _ _=>cases h
   | aux _=>cases h
theorem inv_memD {l:List D} {P:Prop} (h:memD x l=some r) (c:okF 8 x=true->(∀y∈l,okF 8 y=true)->(l.any fun y=>eqv0 y x)=r->P):P:=by
 have h:(if (okF 8 x&&l.all (okF 8))=true then some (l.any fun y=>eqv0 y x) else none)=some r:=h
 by_cases q:(okF 8 x&&l.all (okF 8))=true
 ·rw [if_pos q] at h
  have q:=Bool.and_eq_true_iff.mp q
  exact c q.1 (List.all_eq_true.mp q.2) (Option.some.inj h)
 ·rw [if_neg q] at h;cases h
theorem isN_eq {a:Value} {h:Heap} (hx:Rep B h x a) (hcl:∀c,B.clsv c≠.none):if isN x then a=.none else a≠.none:=by
 cases x with
 | none=>simp only [Rep] at hx;exact hx
 | cls c=>simp only [Rep] at hx;rw [hx.1];exact hcl c
 | _=>exact none_ne hx (by intro q;cases q) (by intro c q;cases q)
end
section
variable {x y:D} {a b:Value} {r:Bool} {Q:Value->Shared->Prop}
theorem shaped_py {d:D} {v:Value} {h:Heap} (ho:okF 8 d=true) (hr:Rep B h d v):SeqAt.shaped (py d)=true:=by
 have l1:=lay_py ho hr
 unfold SeqAt.shaped;rw [l1.1,Bool.true_and];exact decide_eq_true (Nat.le_trans l1.2 (by decide))
theorem reads_list (C:ConcH B H s.heap) {l:List D} {i:Addr} (e:H i=some (.list l)) (ho:l.all (okF 8)=true):(∃as,Reads s.heap (.ref i) (.list (pys l)) as)/\SeqAt.shaped (.list (pys l))=true:=by
 have ho:=List.all_eq_true.mp ho
 obtain ⟨vs,n,g1,_,_,r1⟩:=C.list e
 obtain ⟨as,q⟩:=readsAll_py ho r1
 have l1:=layAll_py ho r1
 refine ⟨⟨_,.list g1 rfl rfl q⟩,?_⟩
 unfold SeqAt.shaped;simp only [PyData.canLay0,PyData.depth,l1.1,Bool.true_and];exact decide_eq_true (Nat.succ_le_succ (Nat.le_trans l1.2 (by decide)))
theorem eq_sound (h:eqD H x y=some r) (hx:Rep B s.heap x a) (hy:Rep B s.heap y b) (C:ConcH B H s.heap) (hu:A.units+100 < cLine) :
  (Q (.bool r) s->wpAny (model prog w) A (compareOp .Eq a b) Q E s)/\(Q (.bool !r) s->wpAny (model prog w) A (compareOp .NotEq a b) Q E s):=by
 have hu1:A.units+12 < cLine:=Nat.lt_of_le_of_lt (Nat.add_le_add_left (by decide) _) hu
 revert hx hy
 refine inv_eqD (P:=fun x y=>Rep B s.heap x a->Rep B s.heap y b->_) h (fun i j h hx hy=>?_) fun o1 o2 e hx hy=>?_
 ·simp only [Rep] at hx hy
  subst hx;subst hy
  refine inv_eqL h fun l m e1 e2=>⟨fun hne e=>?_,fun o1 o2 e=>?_⟩
  ·subst e
   obtain ⟨vs,n,g1,_,q1,r1⟩:=C.list e1
   obtain ⟨ws,n2,g2,_,q2,r2⟩:=C.list e2
   have hs:(vs.size != ws.size)=true:=by rw [bne_iff_ne,q1,q2];exact hne
   exact ⟨fun hq=>P.eq_list_lengths g1 g2 hs (by exact jk47 hu) hq,fun hq=>SeqAt.RcNeAt.lists_lengths (IsL.isList g1) (IsL.isList g2) hs (by exact jk47 hu) prog w E Q hq⟩
  ·obtain ⟨⟨as,q1⟩,s1⟩:=reads_list C e1 o1
   obtain ⟨⟨bs,q2⟩,s2⟩:=reads_list C e2 o2
   have e:PyData.eqv (.list (pys l)) (.list (pys m))=r:=by simp only [PyData.eqv];rw [eqvs_py (List.all_eq_true.mp o1) (List.all_eq_true.mp o2)];exact e
   exact ⟨fun hq=>eq_dataH q1 q2 s1 s2 (by exact jk13 hu) (by rw [e];exact hq),fun hq=>ne_dataH q1 q2 s1 s2 (by exact jk13 hu) (by rw [e];exact hq)⟩
 ·obtain ⟨as,q1⟩:=reads_py o1 hx
  obtain ⟨bs,q2⟩:=reads_py o2 hy
  have e:=(eqv_py o1 o2).trans e
  exact ⟨fun hq=>eq_dataH q1 q2 (shaped_py o1 hx) (shaped_py o2 hy) (by exact jk13 hu) (by rw [e];exact hq),fun hq=>ne_dataH q1 q2 (shaped_py o1 hx) (shaped_py o2 hy) (by exact jk13 hu) (by rw [e];exact hq)⟩
theorem in_sound (h:vIn x y H=some r) (hx:Rep B s.heap x a) (hy:Rep B s.heap y b) (C:ConcH B H s.heap) (hu:A.units+100 < cLine) :
  (Q (.bool r) s->wpAny (model prog w) A (compareOp .In a b) Q E s)/\(Q (.bool !r) s->wpAny (model prog w) A (compareOp .NotIn a b) Q E s):=by
 have dep:∀{k:Nat} {x:D} {v:Value},okF 8 x=true->Rep B s.heap x v->A.units+1+min k (py x).depth < cLine:=fun {k x v} ho hr=>by
  have l2:=(lay_py ho hr).2
  have:=Nat.min_le_right k (py x).depth
  exact jl3 (jc4 _ (min _ _) _ _) (jA (jA j0 (jK 100)) (jK 1)) j2 j3 (jK 8) j1 j3 (jA (jA (jA j0 (jK 1)) j1) (jK 1)) j2 rfl hu l2 (Nat.min_le_right _ _)
 revert hx hy
 refine inv_vIn (P:=fun x y=>Rep B s.heap x a->Rep B s.heap y b->_) h (fun m l h hx hy=>?_) (fun l h hx hy=>?_) fun i l e h hx hy=>?_
 ·have key:=in_text h
  simp only [Rep] at hx hy
  obtain ⟨_,_,t,rfl⟩:=hx;obtain ⟨_,_,u,rfl⟩:=hy
  exact ⟨fun hq=>PyProof.Rows.in_str (by rw [key];exact hq),fun hq=>PyProof.Rows.notIn_str (by rw [key];exact hq)⟩
 ·simp only [Rep] at hy
  obtain ⟨t,vs,n,rfl,g,_,rv⟩:=hy
  refine inv_memD h fun o1 o2 e=>?_
  obtain ⟨as,q⟩:=readsAll_py o2 rv
  obtain ⟨bs,p⟩:=reads_py o1 hx
  have e:=(any_py o1 l o2).trans e
  exact ⟨fun hq=>SeqAt.in_tuple_reads (.tuple g rfl rfl q) p (layAll_py o2 rv).1 (lay_py o1 hx).1 (dep o1 hx) (by rw [e];exact hq),fun hq=>SeqAt.notIn_tuple_reads (.tuple g rfl rfl q) p (layAll_py o2 rv).1 (lay_py o1 hx).1 (dep o1 hx) (by rw [e];exact hq)⟩
 ·simp only [Rep] at hy;subst hy
  obtain ⟨vs,n,g,_,_,rv⟩:=C.list e
  refine inv_memD h fun o1 o2 e=>?_
  obtain ⟨as,q⟩:=readsAll_py o2 rv
  obtain ⟨bs,p⟩:=reads_py o1 hx
  have e:=(any_py o1 l o2).trans e
  exact ⟨fun hq=>SeqAt.in_list_reads (.list g rfl rfl q) p (layAll_py o2 rv).1 (lay_py o1 hx).1 (dep o1 hx) (by rw [e];exact hq),fun hq=>SeqAt.notIn_list_reads (.list g rfl rfl q) p (layAll_py o2 rv).1 (lay_py o1 hx).1 (dep o1 hx) (by rw [e];exact hq)⟩
theorem int_of {f:Int->Int->Bool} {h:Heap} (hx:Rep B h x a) (hy:Rep B h y b) (hc:cmpI f x y=some r):∃i j t u,a=.int i t/\b=.int j u/\f i j=r:=by
 revert hx hy
 refine inv_cmpI (P:=fun x y=>Rep B h x a->Rep B h y b->∃i j t u,a=.int i t/\b=.int j u/\f i j=r) hc fun i j e hx hy=>?_
 simp only [Rep] at hx hy
 obtain ⟨t,rfl⟩:=hx;obtain ⟨u,rfl⟩:=hy
 exact ⟨_,_,_,_,rfl,rfl,e⟩
theorem not_eq {z:Option Bool} (h:z.map (fun b=>!b)=some r):∃q,z=some q/\(!q)=r:=by
 cases z with
 | none=>cases h
 | some q=>exact ⟨q,rfl,Option.some.inj h⟩
theorem is_sound {q:Bool} (h:cmpN y q=some r) (hy:Rep B s.heap y b) (hx:Rep B s.heap x a) (hcl:∀c,B.clsv c≠.none):b=.none/\r=q/\(if isN x then a=.none else a≠.none):=by
 obtain ⟨rfl,e⟩:=cmpN_eq h
 simp only [Rep] at hy
 exact ⟨hy,e,isN_eq hx hcl⟩
theorem cmp_sound {o:Cm} {o':CmpOp} (ho:cmOk o o'=true) (h:vCmp o x y H=some r) (hx:Rep B s.heap x a) (hy:Rep B s.heap y b) (C:ConcH B H s.heap)
  (hcl:∀c,B.clsv c≠.none) (hu:A.units+100 < cLine) (hq:Q (.bool r) s):wpAny (model prog w) A (compareOp o' a b) Q E s:=by
 cases o with
 | eq=>obtain rfl:=cm_eq ho;exact (eq_sound h hx hy C hu).1 hq
 | ne=>obtain rfl:=cm_ne ho;obtain ⟨q,hd,e⟩:=not_eq h;exact (eq_sound hd hx hy C hu).2 (by rw [e];exact hq)
 | lt=>obtain rfl:=cm_lt ho;obtain ⟨i,j,t,u,rfl,rfl,e⟩:=int_of hx hy h;exact P.lt_int (by rw [e];exact hq)
 | le=>obtain rfl:=cm_le ho;obtain ⟨i,j,t,u,rfl,rfl,e⟩:=int_of hx hy h;exact P.le_int (by rw [e];exact hq)
 | gt=>obtain rfl:=cm_gt ho;obtain ⟨i,j,t,u,rfl,rfl,e⟩:=int_of hx hy h;exact P.gt_int (by rw [e];exact hq)
 | ge=>obtain rfl:=cm_ge ho;obtain ⟨i,j,t,u,rfl,rfl,e⟩:=int_of hx hy h;exact P.ge_int (by rw [e];exact hq)
 | is=>
  obtain rfl:=cm_is ho
  obtain ⟨rfl,rfl,hn⟩:=is_sound h hy hx hcl
  cases hi:isN x with
  | true=>rw [hi,if_pos rfl] at hn;subst hn;rw [hi] at hq;exact is_none_none hq
  | false=>rw [hi,if_neg Bool.false_ne_true] at hn;rw [hi] at hq;exact is_none_ne hn hq
 | isnot=>
  obtain rfl:=cm_isnot ho
  obtain ⟨rfl,rfl,hn⟩:=is_sound h hy hx hcl
  cases hi:isN x with
  | true=>rw [hi,if_pos rfl] at hn;subst hn;rw [hi] at hq;exact isnot_none_none hq
  | false=>rw [hi,if_neg Bool.false_ne_true] at hn;rw [hi] at hq;exact isnot_none_ne hn hq
 | inn=>obtain rfl:=cm_in ho;exact (in_sound h hx hy C hu).1 hq
 | notin=>obtain rfl:=cm_notin ho;obtain ⟨q,hd,e⟩:=not_eq h;exact (in_sound hd hx hy C hu).2 (by rw [e];exact hq)
end
end
end Mine
set_option Elab.async false
namespace Mine
open PySem PyProof.Rows
theorem pick_range' {α:Type} (l:List α):∀(n i:Nat),(List.range' i n).filterMap (fun j=>l[j]?)=(l.drop i).take n
 | 0,i=>by simp
 | n+1,i=>by
  rw [List.range'_succ,List.filterMap_cons,pick_range' l n (i+1)]
  by_cases h:i < l.length
  ·rw [List.getElem?_eq_getElem h,List.drop_eq_getElem_cons h,List.take_succ_cons]
  ·rw [List.getElem?_eq_none (by exact jk8 h),List.drop_eq_nil_of_le (by exact jl1 (jc2 _ _) j0 j1 j0 (jA j1 (jK 1)) rfl (Nat.le_of_not_lt h)),List.drop_eq_nil_of_le (by exact jk8 h)];simp
theorem sliceRange_one (a b:Int) (ha:0<=a):sliceRange a b 1=List.range' a.toNat (b - a).toNat:=by
 unfold sliceRange
 simp only [show (1:Int) > 0 by decide,if_true]
 have e:(if a < b then (b - a+1 - 1) / 1 else 0:Int).toNat=(b - a).toNat:=by
  split
  ·have:(b - a+1 - 1) / 1=b - a:=by omega
   rw [this]
  ·omega
 rw [e,List.range'_eq_map_range]
 apply List.map_congr_left
 intro k _
 omega
theorem pick_eq {α:Type} (l:List α) (a b:Int) (ha:0<=a):(sliceRange a b 1).filterMap (fun j=>l[j]?)=(l.take b.toNat).drop a.toNat:=by
 rw [sliceRange_one a b ha,pick_range',List.drop_take]
 obtain ⟨m,rfl⟩:=Int.eq_ofNat_of_zero_le ha
 congr 1
 cases b with
 | ofNat k=>exact Int.toNat_sub k m
 | negSucc k=>exact (Int.toNat_of_nonpos (Int.sub_nonpos_of_le (Int.le_trans (Int.le_of_lt (Int.negSucc_lt_zero k)) (Int.natCast_nonneg m)))).trans (Nat.zero_sub m).symm
noncomputable def partOf:D->Option (Option Int)
 | .none=>some none
 | .int i=>some (some i)
 | _=>none
theorem clip_part {n dflt:Nat} {d:D} {k:Nat} (h:clipAt n dflt d=some k):∃p,partOf d=some p /\
  (match p with | none=>(dflt:Int) | some i=>max 0 (min (if i < 0 then i+n else i) n))=(k:Int):=by
 cases d <;> simp only [clipAt] at h <;> try cases h
 ·exact ⟨none,rfl,rfl⟩
 ·rename_i i
  refine ⟨some i,rfl,?_⟩
  show max 0 (min (if i < 0 then i+n else i) n)=(((if 0<=i then min i.toNat n else (i+n).toNat):Nat):Int)
  by_cases hi:0<=i
  ·rw [if_neg (Int.not_lt.mpr hi),if_pos hi]
   obtain ⟨m,rfl⟩:=Int.eq_ofNat_of_zero_le hi
   show max 0 (min (m:Int) n)=((min m n:Nat):Int)
   rcases Nat.le_total m n with h | h
   ·rw [Nat.min_eq_left h,Int.min_eq_left (Int.ofNat_le.mpr h)];exact Int.max_eq_right (Int.natCast_nonneg _)
   ·rw [Nat.min_eq_right h,Int.min_eq_right (Int.ofNat_le.mpr h)];exact Int.max_eq_right (Int.natCast_nonneg _)
  ·have hi:=Int.not_le.mp hi
   rw [if_pos hi,if_neg (Int.not_le.mpr hi),Int.min_eq_left (Int.le_trans (Int.add_le_add_right (Int.le_of_lt hi) _) (Int.le_of_eq (Int.zero_add _))),Int.ofNat_toNat,Int.max_comm]
section
variable {prog:Program} {w:World} {B:Bs} {A:Around} {E:Value->Shared->Prop} {s:Shared} {H:Hp} {Q:D->Hp->Prop}
theorem pix_seq {n:Nat} {i:Int} {j:Nat} (h:pix n i=some j):seqIndex? i n=some j/\j < n:=by
 unfold pix at h
 unfold seqIndex?
 split at h
 ·split at h
  ·cases h
   rename_i h1 h2
   have:¬i < 0:=by exact Int.not_lt.mpr (ul1 (uc1 _) (uK 0) u0 (uK 0) u0 rfl h1)
   simp only [this,if_false]
   rw [if_pos (by simp;exact ⟨ul1 (uc1 _) (uK 0) u0 (uK 0) u0 rfl h1,ul1 (uc2 _ ((_:Nat):Int)) (uA u0 (uK 1)) u1 (uA u0 (uK 1)) u1 rfl h2⟩)]
   exact ⟨rfl,by exact jk48 h1 h2⟩
  ·cases h
 ·split at h
  ·cases h
   rename_i h1 h2
   have:i < 0:=by exact ul1 (uc1 _) (uA u0 (uK 1)) (uK 0) (uA u0 (uK 1)) (uK 0) rfl (Int.not_le.mp h1)
   simp only [this,if_true]
   rw [if_pos (by simp;exact ⟨ul1 (uc2 _ ((_:Nat):Int)) (uK 0) (uA u0 u1) (uK 0) (uA u0 u1) rfl h2,ul1 (uc2 _ ((_:Nat):Int)) (uA u0 (uK 1)) (uK 0) (uA (uA u0 u1) (uK 1)) u1 rfl (Int.not_le.mp h1)⟩)]
   exact ⟨rfl,by exact Int.ofNat_le.mp (ul2 (uc3 (((Int.toNat (_+((_:Nat):Int))):Nat):Int) ((_:Nat):Int) _) (uA u2 (uK 1)) (uK 0) u0 (uA u2 u1) (uA u0 (uK 1)) u1 rfl (Int.not_le.mp h1) (Int.le_of_eq (Int.toNat_of_nonneg (ul1 (uc2 _ ((_:Nat):Int)) (uK 0) (uA u0 u1) (uK 0) (uA u0 u1) rfl h2))))⟩
  ·cases h
theorem pix_bounds {n:Nat} {i:Int} {j:Nat} (h:pix n i=some j):-(n:Int)<=i/\i < n/\((0<=i/\j=i.toNat)\/(i < 0/\j=(i+n).toNat)):=by
 unfold pix at h
 split at h
 ·split at h
  ·cases h;omega
  ·cases h
 ·split at h
  ·cases h;omega
  ·cases h
theorem subscripted_item {slice:Expr} (h:notSlice slice=true) (o i:Value):subscripted slice false o i=operate [o,i] (getItem o i):=by
 cases slice <;> first | rfl | cases h
theorem SZ_lt:(SZ:Int) < 2 ^ 62:=by decide
theorem item_sound {value slice:Expr} {x y:D} {a b:Value} (T:Tab) (hB:BOk prog w B T) (hs:notSlice slice=true) (h:vItem x y B.ns H Q) (hx:Rep B s.heap x a) (hy:Rep B s.heap y b) (C:ConcH B H s.heap) (hb:B.base.StaysIn s.heap) :
  wpAny (model prog w) A (subscriptTail value slice a b) (CallPost B H s Q) E s:=by
 have hsz:=SZ_lt
 revert hy
 cases x <;> try exact False.elim h
 ·-- str
  rename_i l
  refine inv_ki h fun i h=>?_
  intro hy
  simp only [Rep] at hx hy
  obtain ⟨hz,hc,t,rfl⟩:=hx
  obtain ⟨u,rfl⟩:=hy
  obtain ⟨j,c,hp,hd,hq⟩:=h
  obtain ⟨b1,b2,_⟩:=pix_bounds hp
  refine tail_any (T:= "str") (typeIs_str _ _ _) F.slot_str_getitem.lookup (PyProof.Rows.getItem_str (c:=c) ?_ ?_ ?_) (subscripted_item hs _ _)
  ·have h1:¬i < -(2 ^ 63:Int):=by exact Int.not_lt.mpr (ul3 (uc3 _ ((_:Nat):Int) ((_:Nat):Int)) (uA u1 (uK 1)) (uK 4611686018427387904) (uN u2) u0 u2 u1 (uN (uK 9223372036854775808)) u0 rfl hsz b1 (Int.ofNat_le.mpr hz))
   have h2:¬i ≥ (2 ^ 63:Int):=by exact Int.not_le.mpr (ul3 (uc3 _ ((_:Nat):Int) ((_:Nat):Int)) (uA u1 (uK 1)) (uK 4611686018427387904) (uA u0 (uK 1)) u2 u2 u1 (uA u0 (uK 1)) (uK 9223372036854775808) rfl hsz b2 (Int.ofNat_le.mpr hz))
   simp only [h1,h2,decide_false,Bool.or_self]
  ·have:(⟨l.toArray⟩:Str).length=l.length:=by simp [Str.length]
   rw [this,(pix_seq hp).1]
   simpa using hd
  ·exact post_same C hb (by simp only [Rep];exact ⟨by simp [SZ],fun c' hc'=>by simp at hc';subst hc';exact hc _ (List.mem_of_getElem? hd),_,rfl⟩) hq rfl
 ·-- tuple
  refine inv_ki h fun i h=>?_
  intro hy
  simp only [Rep] at hx hy
  obtain ⟨t,vs,n,rfl,g,hz,hr⟩:=hx
  obtain ⟨u,rfl⟩:=hy
  obtain ⟨j,d,hp,hd,hq⟩:=h
  obtain ⟨v,hv,rv⟩:=hr.get hd
  have hl:=hr.length
  simp only [Array.length_toList] at hl
  obtain ⟨b1,b2,_⟩:=pix_bounds hp
  refine tail_any (T:= "tuple") ⟨_,g,rfl⟩ F.slot_tuple_getitem.lookup (P.getItem_tuple g (by exact jk49 hsz b1 hl hz) (by exact jk50 hsz b2 hl hz) (by rw [hl];exact (pix_seq hp).1) (by simpa using hv) ?_) (subscripted_item hs _ _)
  exact post_same C hb rv hq rfl
 ·-- list
  refine inv_ki h fun i h=>?_
  intro hy
  simp only [Rep] at hx hy
  subst hx
  obtain ⟨u,rfl⟩:=hy
  obtain ⟨l,j,d,e,hp,hd,hq⟩:=h
  obtain ⟨vs,n,g,hz,hl,hr⟩:=C.list e
  obtain ⟨v,hv,rv⟩:=hr.get hd
  obtain ⟨b1,b2,b3⟩:=pix_bounds hp
  refine tail_any (T:= "list") ⟨_,g,rfl⟩ slot_list_getitem.lookup ?_ (subscripted_item hs _ _)
  rcases b3 with ⟨h0,rfl⟩ | ⟨h0,rfl⟩
  ·exact wpAny_getItem_list (IsL.isList g) h0 (by exact jk50 hsz b2 hl hz) (by simpa using hv) (post_same C hb rv hq rfl)
  ·exact wpAny_getItem_list_neg (IsL.isList g) h0 (by exact ul2 (uc3 ((_:Nat):Int) _ ((_:Nat):Int)) (uN u2) u1 u2 u0 (uN u0) u1 rfl b1 (Int.ofNat_le.mpr (Nat.le_of_eq (Eq.symm hl)))) (by exact jk49 hsz b1 hl hz) (by rw [hl];simpa using hv) (post_same C hb rv hq rfl)
 ·-- the script
  refine inv_ki h fun i h=>?_
  intro hy
  simp only [Rep] at hx hy
  subst hx
  obtain ⟨u,rfl⟩:=hy
  obtain ⟨h0,k,hk,hq⟩:=h
  obtain ⟨vs,n,g,hr,hn⟩:=hB.scr
  have g':=hb _ _ g
  obtain ⟨v,hv,rv⟩:=hr.get (i:=(_:Int).toNat) (d:=.int k) (by rw [List.getElem?_map,hk];rfl)
  have hlt:(_:Int).toNat < B.ns.length:=(List.getElem?_eq_some_iff.mp hk).1
  refine tail_any (T:= "list") ⟨_,g',rfl⟩ slot_list_getitem.lookup ?_ (subscripted_item hs _ _)
  refine wpAny_getItem_list ⟨_,g',rfl,n,rfl⟩ h0 (by omega) (by simpa using hv) (post_same C hb ?_ hq rfl)
  simp only [Rep] at rv ⊢;exact rv
theorem isPart_of {h:Heap} {d:D} {v:Value} {p:Option Int} (hp:partOf d=some p) (r:Rep B h d v):IsPart v p/\∃q:Option (Int×Tok),v=partValue q/\q.map (·.1)=p:=by
 cases d <;> simp only [partOf] at hp <;> try cases hp
 ·simp only [Rep] at r;subst r;exact ⟨.none,none,rfl,rfl⟩
 ·simp only [Rep] at r;obtain ⟨t,rfl⟩:=r;exact ⟨.int _ t,some (_,t),rfl,rfl⟩
theorem slicePick_eq {items:Array Value} {lo hi:D} {p q:Option Int} {a b:Nat} (h1:clipAt items.size 0 lo=some a) (h2:clipAt items.size items.size hi=some b) (hp:partOf lo=some p) (hq:partOf hi=some q) :
  slicePick items p q none=((items.toList.take b).drop a).toArray:=by
 obtain ⟨p',e1,c1⟩:=clip_part h1
 obtain ⟨q',e2,c2⟩:=clip_part h2
 rw [hp] at e1;cases e1
 rw [hq] at e2;cases e2
 have hb:sliceBounds p q none items.size=((a:Int),(b:Int),1):=by
  unfold sliceBounds
  simp only [Option.getD_none,show (1:Int) > 0 by decide,if_true]
  refine Prod.ext ?_ (Prod.ext ?_ rfl)
  ·cases p <;> simpa using c1
  ·cases q <;> simpa using c2
 unfold slicePick
 rw [hb]
 have:=pick_eq items.toList (a:Int) (b:Int) (by exact jk1)
 simp only [Int.toNat_natCast,Array.getElem?_toList] at this
 rw [this]
theorem strPick_eq {l:List Nat} {lo hi:D} {p q:Option (Int×Tok)} {a b:Nat} (h1:clipAt l.length 0 lo=some a) (h2:clipAt l.length l.length hi=some b) (hp:partOf lo=some (p.map (·.1))) (hq:partOf hi=some (q.map (·.1))) :
  (slicePicked ⟨l.toArray⟩ p q none).filterMap (fun j=>l[j]?)=(l.take b).drop a/\(slicePicked ⟨l.toArray⟩ p q none).length=((b:Int) - a).toNat:=by
 obtain ⟨p',e1,c1⟩:=clip_part h1
 obtain ⟨q',e2,c2⟩:=clip_part h2
 rw [hp] at e1;cases e1
 rw [hq] at e2;cases e2
 have hb:slicePicked ⟨l.toArray⟩ p q none=sliceRange (a:Int) (b:Int) 1:=by
  unfold slicePicked Builtin.Str.strSliceIndices
  simp only [Option.map_none,Option.getD_none,show (1:Int) > 0 by decide,if_true,Str.length,List.size_toArray]
  congr 1
 rw [hb]
 refine ⟨by have:=pick_eq l (a:Int) (b:Int) (by exact jk1);simpa using this,?_⟩
 rw [sliceRange_one _ _ (by exact jk1)];simp
theorem CallPost.from {H1:Hp} {s1 s':Shared} {v:Value} (K:Keep noOwn H s H1 s1) (x:CallPost B H1 s1 Q v s'):CallPost B H s Q v s':=by
 obtain ⟨d,H',r,c,b,k,q⟩:=x
 exact ⟨d,H',r,c,b,K.trans k,q⟩
theorem slice_sound {value:Expr} {l u:Option Expr} {p:Pos} {x y z:D} {a b c:Value} (h:vSlice x y z H Q) (hx:Rep B s.heap x a) (hy:Rep B s.heap y b) (hz:Rep B s.heap z c) (C:ConcH B H s.heap) (hb:B.base.StaysIn s.heap) :
  wpAny (model prog w) A (subscriptTail value (.Slice l u none p) a (.ref s.heap.objs.size)) (CallPost B H s Q) E { s with heap:=s.heap.push { cls:=.type "slice",data:=.fields #[b,c,.none] } }:=by
 have hsz:=SZ_lt
 have hline:=SZ_le
 have k:=push_keep (h:=s.heap) { cls:=.type "slice",data:=.fields #[b,c,.none] }
 have K:Keep noOwn H s H { s with heap:=s.heap.push { cls:=.type "slice",data:=.fields #[b,c,.none] } }:=.grow k (push_size_le _) rfl rfl
 have C':ConcH B H ({ s with heap:=s.heap.push { cls:=.type "slice",data:=.fields #[b,c,.none] } }:Shared).heap:=C.grow k
 have hb':B.base.StaysIn ({ s with heap:=s.heap.push { cls:=.type "slice",data:=.fields #[b,c,.none] } }:Shared).heap:=fun a o e=>k a o (hb a o e)
 have hsl:(s.heap.push { cls:=.type "slice",data:=.fields #[b,c,.none] }).get? s.heap.objs.size=some { cls:=.type "slice",data:=.fields #[b,c,.none] }:=Heap.get?_push_size _ rfl
 unfold vSlice at h
 split at h
 ·-- str
  rename_i l
  simp only [Rep] at hx
  obtain ⟨hzx,hc,t,rfl⟩:=hx
  obtain ⟨i,j,c1,c2,hq⟩:=h
  obtain ⟨p1,e1,_⟩:=clip_part c1
  obtain ⟨p2,e2,_⟩:=clip_part c2
  obtain ⟨_,q1,rfl,m1⟩:=isPart_of e1 hy
  obtain ⟨_,q2,rfl,m2⟩:=isPart_of e2 hz
  have hpk:=strPick_eq (p:=q1) (q:=q2) c1 c2 (by rw [e1,m1]) (by rw [e2,m2])
  refine tail_any (T:= "str") (typeIs_str _ _ _) F.slot_str_getitem.lookup (wpAny_getItem_str_slice (l:=q1) (u:=q2) (st:=none) ⟨_,hsl,rfl,rfl⟩ rfl ?_) rfl
  have hlen:((l.take j).drop i).length<=SZ:=by
   rw [List.length_drop,List.length_take];exact jl3 (jc4 ((min _ _) - _) _ _ (min _ _)) j2 j1 j0 j3 j3 j2 j0 j1 rfl hzx (Nat.sub_le (min _ _) _) (Nat.min_le_right _ _)
  have hch:∀c∈(l.take j).drop i,c < 128:=fun c hm=>hc c (List.mem_of_mem_take (List.mem_of_mem_drop hm))
  unfold sliceMade
  split
  ·rename_i hfull
   have hj:j<=l.length:=by
    cases z <;> simp only [clipAt] at c2 <;> try cases c2
    ·exact jk51
    ·split <;> omega
   have heq:(l.take j).drop i=l:=by
    have h1:(slicePicked ⟨l.toArray⟩ q1 q2 none).length=l.length:=by
     simp only [Option.map_none,Option.getD_none,Bool.and_eq_true,beq_iff_eq] at hfull
     rw [hfull.2];simp [Str.length]
    rw [hpk.2] at h1
    by_cases h0:l.length=0
    ·have:l=[]:=List.length_eq_zero_iff.mp h0
     subst this;simp
    ·have hi:i=0:=by omega
     have hj':j=l.length:=by omega
     subst hi;subst hj';simp
   rw [heq] at hq
   exact CallPost.from K (post_same C' hb' (by simp only [Rep];exact ⟨hzx,hc,_,rfl⟩) hq rfl)
  ·have he:(⟨((slicePicked ⟨l.toArray⟩ q1 q2 none).filterMap ((⟨l.toArray⟩:Str).cps[·]?)).toArray⟩:Str)=⟨((l.take j).drop i).toArray⟩:=by
    rw [<-hpk.1];simp
   rw [he]
   refine ⟨?_,CallPost.from K (post_same C' hb' (by simp only [Rep];exact ⟨hlen,hch,_,rfl⟩) hq rfl)⟩
   simp only [Str.length,List.size_toArray];exact jk2 hlen hline
 ·-- tuple
  obtain ⟨i,rfl,rfl,h1,h2,hq⟩:=h
  simp only [Rep] at hx hy hz
  obtain ⟨t,vs,n,rfl,g,hzx,hr⟩:=hx
  obtain ⟨u,rfl⟩:=hy
  subst hz
  have hl:=hr.length
  simp only [Array.length_toList] at hl
  have gi:((i.toNat:Nat):Int)=i:=by exact Int.le_antisymm (ul1 (uc2 (((Int.toNat _):Nat):Int) _) u0 u1 u0 u1 rfl (Int.le_of_eq (Int.toNat_of_nonneg (ul1 (uc1 _) (uK 1) u0 (uK 0) u0 rfl h1)))) (ul1 (uc2 _ (((Int.toNat _):Nat):Int)) u0 u1 u0 u1 rfl (Int.le_of_eq (Eq.symm (Int.toNat_of_nonneg (ul1 (uc1 _) (uK 1) u0 (uK 0) u0 rfl h1)))))
  refine tail_any (T:= "tuple") ⟨_,k _ _ g,rfl⟩ F.slot_tuple_getitem.lookup ?_ rfl
  refine getItem_tuple_from (a:=i.toNat) (u:=u) ⟨_,k _ _ g,rfl,n,rfl⟩ ⟨_,hsl,rfl,by rw [gi]⟩ (by exact jk22 h1) (by omega) ?_ (by exact jk2 hzx hline)
  refine CallPost.from K (post_grow C' hb' (push_keep _) (push_size_le _) (rep_newtuple (ds:=_) ?_ ?_) hq)
  ·simpa using (hr.drop i.toNat).pres (.grow k)
  ·rw [List.length_drop];exact Int.ofNat_le.mp (ul3 (uc4 (((_ - (Int.toNat _)):Nat):Int) ((_:Nat):Int) ((_:Nat):Int) ((_:Nat):Int)) u2 u3 u3 u1 u0 u2 u0 u1 rfl (Int.ofNat_le.mpr (Nat.le_of_eq (Eq.symm hl))) (Int.ofNat_le.mpr hzx) (Int.ofNat_le.mpr (Nat.sub_le _ (Int.toNat _))))
 ·-- list
  obtain ⟨l,i,j,e,c1,c2,hq⟩:=h
  simp only [Rep] at hx
  subst hx
  obtain ⟨vs,n,g,hzx,hl,hr⟩:=C.list e
  obtain ⟨p1,e1,_⟩:=clip_part c1
  obtain ⟨p2,e2,_⟩:=clip_part c2
  obtain ⟨ip1,_⟩:=isPart_of e1 hy
  obtain ⟨ip2,_⟩:=isPart_of e2 hz
  refine tail_any (T:= "list") ⟨_,k _ _ g,rfl⟩ slot_list_getitem.lookup ?_ rfl
  refine wpAny_getItem_list_slice (IsL.isList (k _ _ g)) ⟨_,hsl,rfl,rfl⟩ ip1 ip2 .none (by intro q;cases q) ?_ (by exact jk2 hzx hline)
  rw [slicePick_eq (lo:=y) (hi:=z) (a:=i) (b:=j) (by rw [hl];exact c1) (by rw [hl];exact c2) e1 e2]
  refine CallPost.from K (post_newlist (tk:=s.toks) (s:={ s with heap:=s.heap.push { cls:=.type "slice",data:=.fields #[b,c,.none] } }) C' hb' ?_ ?_ hq)
  ·exact ((hr.take j).drop i).pres (.grow k)
  ·rw [List.length_drop,List.length_take];exact jl3 (jc5 ((min _ _) - _) _ _ _ (min _ _)) j0 j4 j4 j2 (jA j2 j3) (jA j3 j1) j0 j1 rfl (Nat.sub_le (min _ _) _) (Nat.min_le_right _ _) (Nat.add_le_add (Nat.le_of_eq (Eq.symm hl)) hzx)
 ·exact h.elim
end
end Mine
set_option Elab.async false
namespace Mine
open PySem PyProof.Rows
theorem entry_unchain:entryFor table "proto.unchain" = some Builtin.«proto.unchain»:=entryFor_of_tree (by kernel_rfl)
theorem plain_unchain:plainId "proto.unchain" = true:=by decide+kernel
section
variable {prog:Program} {w:World} {A:Around} {E:Value->Shared->Prop} {s:Shared}
theorem Ctx2.field {M:Model} {a:Addr} {v:Value} {Q:Value->Shared->Prop} (x:Ctx2 s.heap a v) (h:Q v s):wpAny M A (field (.ref a) 2) Q E s:=by
 obtain ⟨o,C,vs,e,c,hd,hv⟩:=x
 exact wpAny_field e hd hv h
theorem unchain_ok {e:Addr}:∀(l:List Addr) (a b:Addr) (seen:List Addr) (tg:Bool) (R:Result->Shared->Prop),
  Chain s.heap (a::l)->e∉l->a∈seen->b∈seen->(∀c∈seen,c≠a->∃c'∈seen,Ctx2 s.heap c (.ref c'))->R (.ok (.ret .none)) s ->
  codeAny (model prog w) A (.builtin "proto.unchain" ⟨[.ref e,.ref a,.ref b,.bool tg],[]⟩) R s:=by
 intro l
 induction l with
 | nil=>
  intro a b seen tg R hc _ _ _ _ hR
  refine codeAny_builtin entry_unchain ?_
  unfold Builtin.«proto.unchain»
  refine wpAny_bind (Ctx2.field hc ?_)
  rw [if_pos (by simp)]
  first | exact wpAny_pure hR | exact wpAny_bind (wpAny_pure (wpAny_pure hR))
 | cons a' l ih=>
  intro a b seen tg R hc he ha hb hs hR
  obtain ⟨c1,c2⟩:=hc
  have hne:a'≠e:=fun q=>he (by simp [q])
  refine codeAny_builtin entry_unchain ?_
  unfold Builtin.«proto.unchain»
  refine wpAny_bind (Ctx2.field c1 ?_)
  rw [if_neg (by simp),if_neg (by simpa using hne)]
  by_cases hq:a'=b
  ·rw [if_pos (by simpa using hq)]
   refine wpAny_bind (wpAny_rule ?_)
   first | exact wpAny_pure hR | exact wpAny_bind (wpAny_pure (wpAny_pure hR))
  ·rw [if_neg (by simpa using hq)]
   have hstep:∀b',b'∈a'::seen->(Code.builtin "proto.unchain" ⟨[.ref e,.ref a',.ref b',.bool !tg],[]⟩).quiet=true /\
     codeAny (model prog w) A (.builtin "proto.unchain" ⟨[.ref e,.ref a',.ref b',.bool !tg],[]⟩) R s:=by
    intro b' hb'
    refine ⟨plainId_quiet plain_unchain _,ih a' b' (a'::seen) (!tg) R c2 (fun q=>he (by simp [q])) (by simp) hb' ?_ hR⟩
    intro c hcs hca
    rcases List.mem_cons.mp hcs with rfl | hcs
    ·exact absurd rfl hca
    ·by_cases hcaa:c=a
     ·subst hcaa;exact ⟨a',by simp,c1⟩
     ·obtain ⟨c',h1,h2⟩:=hs c hcs hcaa
      exact ⟨c',by simp [h1],h2⟩
   cases tg with
   | false=>exact wpAny_bind (wpAny_pure (wpAny_pure (hstep b (by simp [hb]))))
   | true=>
    show wpAny _ _ (field (.ref b) 2 >>= _) _ _ _
    by_cases hba:b=a
    ·subst hba
     exact wpAny_bind (Ctx2.field c1 (wpAny_pure (hstep a' (by simp))))
    ·obtain ⟨c',h1,h2⟩:=hs b hb hba
     exact wpAny_bind (Ctx2.field h2 (wpAny_pure (hstep c' (by simp [h1]))))
theorem raiseNew_any {α:Type} {e:Addr} {oe:Obj} {vs:Array Value} {Q:α->Shared->Prop} (he:s.heap.get? e=some oe) (hd:oe.data=.fields vs) (hsz:2 < vs.size)
  {hand:List Addr} (hh:A.handled=hand.head?.map Value.ref) (hc:Chain s.heap hand) (hne:e∉hand)
  (h:∀h' ctx,Heap.SameBut e s.heap h'->h'.get? e=some (oe.mapFields (·.setIfInBounds 2 ctx))->(hand=[]->ctx=vs.getD 2 .none)->(∀a r,hand=a::r->ctx=.ref a)->E (.ref e) { s with heap:=h' }) :
  wpAny (model prog w) A (raiseNew (.ref e):Sem α) Q E s:=by
 unfold raiseNew
 refine wpAny_bind (wpAny_handled ?_)
 cases hand with
 | nil=>
  rw [hh]
  refine wpAny_bind (wpAny_pure (wpAny_throw ?_))
  have hx:=h s.heap (vs.getD 2 .none) (.refl _ _) ?_ (fun _=>rfl) (fun a r q=>by cases q)
  ·exact hx
  ·rw [he]
   obtain ⟨c,d,dt,sl⟩:=oe
   simp only at hd;subst hd
   simp only [Obj.mapFields]
   congr 2
   congr 1
   apply Array.ext (by simp)
   intro i h1 h2
   rw [Array.getElem_setIfInBounds]
   split
   ·rename_i q;subst q;simp [Array.getD,hsz]
   ·rfl
 | cons a r=>
  rw [hh]
  have hae:a≠e:=fun q=>hne (by simp [q])
  show wpAny _ _ (if (Value.ref a != Value.ref e)=true then (do
   let _ <-holding [Value.ref e] (runValue (.builtin "proto.unchain" ⟨[.ref e,.ref a,.ref a,.bool false],[]⟩))
   let _ <-updateField e 2 (.ref a)
   throw (.ref e)) else throw (.ref e)) Q E s
  rw [if_pos (by simpa using hae)]
  refine wpAny_bind (wpAny_holding (wpAny_runValue (unchain_ok r a a [a] false _ hc (fun q=>hne (by simp [q])) (by simp) (by simp) (fun c hcs hca=>by simp at hcs;exact absurd hcs hca) ?_)))
  show wpAny _ _ (updateField e 2 (.ref a) >>= _) Q E s
  unfold updateField
  refine wpAny_bind (wpAny_bind (wpAny_load he ?_))
  rw [hd]
  dsimp only
  rw [if_pos hsz]
  refine wpAny_update he (wpAny_throw ?_)
  exact h _ (.ref a) (Heap.SameBut.update ..) (Heap.get?_update_self _ he (Obj.isFreed_of_fields (Obj.data_mapFields hd _))) (fun q=>by cases q) (fun a' r' q=>by cases q;rfl)
theorem Ctx2.lt {h:Heap} {a:Addr} {v:Value} (x:Ctx2 h a v):a < h.objs.size:=by
 obtain ⟨o,C,vs,e,_⟩:=x;exact Heap.lt_size e
theorem Chain.lt {h:Heap}:∀{l:List Addr},Chain h l->∀a∈l,a < h.objs.size
 | [],_,_,hm=>by cases hm
 | [b],x,a,hm=>by simp at hm;subst hm;exact Ctx2.lt x
 | b::c::r,⟨x,y⟩,a,hm=>by
  rcases List.mem_cons.mp hm with rfl | hm
  ·exact x.lt
  ·exact Chain.lt y a hm
theorem stop_raise {α:Type} {Q:α->Shared->Prop} {hand:List Addr} (hh:A.handled=hand.head?.map Value.ref) (hc:Chain s.heap hand)
  (h:∀h' e,(∀b o,s.heap.get? b=some o->h'.get? b=some o)->s.heap.objs.size<=h'.objs.size->(∃o,h'.get? e=some o/\o.cls=.type "StopIteration")->E (.ref e) { s with heap:=h' }) :
  wpAny (model prog w) A (newExc (.type "StopIteration") [] >>= fun e=>(raiseNew e:Sem α)) Q E s:=by
 refine wpAny_bind ?_
 simp only [newExc,newTuple]
 refine wpAny_bind (wpAny_newObj_type ?_ (by size_fits))
 refine wpAny_bind (m:=firstArgMember _ _) (wpAny_of_eq (a:=Value.none) (by first | rfl | (simp only [firstArgMember];rfl)) ?_)
 refine wpAny_newObj_type ?_ (by size_fits)
 have k1:=push_keep (h:=s.heap) { cls:=.type "tuple",data:=.seq ([]:List Value).toArray }
 have hc1:Chain (s.heap.push { cls:=.type "tuple",data:=.seq ([]:List Value).toArray }) hand:=hc.pres (.grow k1)
 refine raiseNew_any (Heap.get?_push_size _ rfl) rfl (by simp only [Array.size_append,List.size_toArray,List.length_cons,List.length_nil];exact jl0 (jc1 _) (jA (jK 2) (jK 1)) (jA (jA (jA (jA (jA (jA (jA (jK 0) (jK 1)) (jK 1)) (jK 1)) (jK 1)) (jK 1)) (jK 1)) j0) rfl) hh (hc1.pres (.grow (push_keep _))) (fun q=>Nat.lt_irrefl _ (Chain.lt hc1 _ q)) fun h' ctx hs he _ _=>?_
 refine h h' _ (fun b o e=>?_) ?_ ⟨_,he,Obj.cls_mapFields ..⟩
 ·have hb:b≠(s.heap.push { cls:=.type "tuple",data:=.seq ([]:List Value).toArray }).objs.size:=Nat.ne_of_lt (Heap.lt_size (k1 b o e))
  rw [hs.2 b hb]
  exact push_keep _ b o (k1 b o e)
 ·rw [hs.1];simp only [Heap.size_push];exact jl0 (jc1 _) j0 (jA (jA j0 (jK 1)) (jK 1)) rfl
theorem pyNext_stop {M:Model} {e:Addr} {Q:Option Value->Shared->Prop} (ho:∃o,s.heap.get? e=some o/\o.cls=.type "StopIteration") (h:Q none s) :
  wpAny M A (do if <-isInstance (.ref e) (.type "StopIteration") then pure none else throw (.ref e)) Q E s:=by
 obtain ⟨o,h1,h2⟩:=ho
 refine wpAny_bind (wpAny_isInstance (T:= "StopIteration") (b:=true) ⟨o,h1,h2⟩ isSubtype_stop ?_)
 exact wpAny_pure h
theorem next_list_end {it l:Addr} {i:Nat} {items} {Q:Option Value->Shared->Prop} {hand:List Addr} (hh:A.handled=hand.head?.map Value.ref) (hch:Chain s.heap hand)
  (hit:s.heap.IsListIter it l i) (hl:s.heap.IsList l items) (hx:items[i]?=none)
  (hQ:∀h',Heap.ExtBut it s.heap h'->s.heap.objs.size<=h'.objs.size->Q none { s with heap:=h' }):wpAny (model prog w) A (pyNext (.ref it)) Q E s:=by
 obtain ⟨o,ho,hc,hd⟩:=id hit
 obtain ⟨ol,hol,_,nl,hdl⟩:=hl
 have hni:¬Imm o:=fun q=>q.not_type (by decide) (by decide) hc
 unfold pyNext
 refine wpAny_bind (wpAny_attempt (wpAny_callSpecial?_slot (name:=Str.ofString "__next__") hit.typeIs slot_listiter_next
  (wpAny_call_entry slot_listiter_next hit.typeIs entry_listiter_next ?_ (args_listiter_next _))))
 show wpAny _ _ (field (.ref it) 0 >>= _) _ _ s
 refine wpAny_bind (wpAny_field ho hd (x:=.ref l) rfl ?_)
 show wpAny _ _ (if (Value.ref l==Value.none)=true then _ else _) _ _ s
 rw [if_neg (show ¬((Value.ref l==Value.none)=true) from Bool.false_ne_true)]
 show wpAny _ _ (field (.ref it) 1 >>= _) _ _ s
 refine wpAny_bind (wpAny_field ho hd (x:=.int i 0) rfl ?_)
 show wpAny _ _ (seqItems? (.ref l) >>= _) _ _ s
 refine wpAny_bind (wpAny_seqItems hol hdl ?_)
 simp only [Int.toNat_natCast,hx]
 refine wpAny_bind (wpAny_rule (wpAny_bind (wpAny_setField ho hd (by simp) ?_)))
 have hb:Heap.ExtBut it s.heap (s.heap.update it (Obj.mapFields (·.setIfInBounds 0 Value.none))):=(Heap.SameBut.update ..).extBut
 refine stop_raise (A:=A.in1) hh (hch.pres (ImmK.but hb fun o' e=>by rw [ho] at e;cases e;exact hni)) fun h' e k hs hst=>?_
 refine pyNext_stop hst (hQ h' (fun b o' hb' e'=>k b o' (hb b o' hb' e')) ?_)
 simpa using hs
theorem next_tuple_end {it t:Addr} {i:Nat} {items} {Q:Option Value->Shared->Prop} {hand:List Addr} (hh:A.handled=hand.head?.map Value.ref) (hch:Chain s.heap hand)
  (hit:s.heap.IsTupleIter it t i) (hl:s.heap.IsTuple t items) (hx:items[i]?=none)
  (hQ:∀h',Heap.ExtBut it s.heap h'->s.heap.objs.size<=h'.objs.size->Q none { s with heap:=h' }):wpAny (model prog w) A (pyNext (.ref it)) Q E s:=by
 obtain ⟨o,ho,hc,hd⟩:=id hit
 obtain ⟨ol,hol,_,nl,hdl⟩:=hl
 have hni:¬Imm o:=fun q=>q.not_type (by decide) (by decide) hc
 unfold pyNext
 refine wpAny_bind (wpAny_attempt (wpAny_callSpecial?_slot (name:=Str.ofString "__next__") hit.typeIs F.slot_tuple_iterator_next
  (wpAny_call_entry F.slot_tuple_iterator_next hit.typeIs F.entry_tuple_iterator_next ?_ (F.args_tuple_iterator_next_1 _))))
 show wpAny _ _ (field (.ref it) 0 >>= _) _ _ s
 refine wpAny_bind (wpAny_field ho hd (x:=.ref t) rfl ?_)
 show wpAny _ _ (if (Value.ref t==Value.none)=true then _ else _) _ _ s
 rw [if_neg (show ¬((Value.ref t==Value.none)=true) from Bool.false_ne_true)]
 show wpAny _ _ (field (.ref it) 1 >>= _) _ _ s
 refine wpAny_bind (wpAny_field ho hd (x:=.int i 0) rfl ?_)
 show wpAny _ _ (seqItems? (.ref t) >>= _) _ _ s
 refine wpAny_bind (wpAny_seqItems hol hdl ?_)
 simp only [Int.toNat_natCast,hx]
 refine wpAny_bind (wpAny_rule (wpAny_bind (wpAny_setField ho hd (by simp) ?_)))
 have hb:Heap.ExtBut it s.heap (s.heap.update it (Obj.mapFields (·.setIfInBounds 0 Value.none))):=(Heap.SameBut.update ..).extBut
 refine stop_raise (A:=A.in1) hh (hch.pres (ImmK.but hb fun o' e=>by rw [ho] at e;cases e;exact hni)) fun h' e k hs hst=>?_
 refine pyNext_stop hst (hQ h' (fun b o' hb' e'=>k b o' (hb b o' hb' e')) ?_)
 simpa using hs
theorem next_ascii_end {it:Addr} {x:Str} {t:Tok} {i:Nat} {Q:Option Value->Shared->Prop} {hand:List Addr} (hh:A.handled=hand.head?.map Value.ref) (hch:Chain s.heap hand)
  (hit:s.heap.IsStrIter it "str_ascii_iterator" x t i) (hx:x.cps[i]?=none)
  (hQ:∀h',Heap.ExtBut it s.heap h'->s.heap.objs.size<=h'.objs.size->Q none { s with heap:=h' }):wpAny (model prog w) A (pyNext (.ref it)) Q E s:=by
 obtain ⟨o,ho,hc,hd⟩:=id hit
 have hni:¬Imm o:=fun q=>q.not_type (by decide) (by decide) hc
 unfold pyNext
 refine wpAny_bind (wpAny_attempt (wpAny_callSpecial?_slot (name:=Str.ofString "__next__") hit.typeIs F.slot_str_ascii_iterator_next
  (wpAny_call_entry F.slot_str_ascii_iterator_next hit.typeIs F.entry_str_ascii_iterator_next ?_ (F.args_str_ascii_iterator_next_1 _))))
 show wpAny _ _ (field (.ref it) 0 >>= _) _ _ s
 refine wpAny_bind (wpAny_field ho hd (x:=.str x t) rfl ?_)
 show wpAny _ _ (field (.ref it) 1 >>= _) _ _ s
 refine wpAny_bind (wpAny_field ho hd (x:=.int i 0) rfl ?_)
 simp only [Int.toNat_natCast,hx]
 refine wpAny_bind (wpAny_rule (wpAny_bind (wpAny_setField ho hd (by simp) (wpAny_bind (wpAny_letGo ?_)))))
 have hb:Heap.ExtBut it s.heap (s.heap.update it (Obj.mapFields (·.setIfInBounds 0 Value.none))):=(Heap.SameBut.update ..).extBut
 refine stop_raise (A:=A.in1) hh (hch.pres (ImmK.but hb fun o' e=>by rw [ho] at e;cases e;exact hni)) fun h' e k hs hst=>?_
 refine pyNext_stop hst (hQ h' (fun b o' hb' e'=>k b o' (hb b o' hb' e')) ?_)
 simpa using hs
theorem next_range_end {it:Addr} {x left step:Int} {Q:Option Value->Shared->Prop} {hand:List Addr} (hh:A.handled=hand.head?.map Value.ref) (hch:Chain s.heap hand)
  (hit:IsRangeIter s.heap it x left step) (hleft:left<=0)
  (hQ:∀h',Heap.ExtBut it s.heap h'->s.heap.objs.size<=h'.objs.size->Q none { s with heap:=h' }):wpAny (model prog w) A (pyNext (.ref it)) Q E s:=by
 have hT:s.TypeIs (.ref it) "range_iterator" := ⟨_,hit,rfl⟩
 unfold pyNext
 refine wpAny_bind (wpAny_attempt (wpAny_callSpecial?_slot (name:=Str.ofString "__next__") hT F.slot_range_iterator_next
  (wpAny_call_entry F.slot_range_iterator_next hT F.entry_range_iterator_next ?_ (F.args_range_iterator_next_1 _))))
 show wpAny _ _ (field (.ref it) 0 >>= _) _ _ s
 refine wpAny_bind (wpAny_field hit rfl (x:=rawInt x) rfl ?_)
 show wpAny _ _ (field (.ref it) 1 >>= _) _ _ s
 refine wpAny_bind (wpAny_field hit rfl (x:=rawInt left) rfl ?_)
 show wpAny _ _ (field (.ref it) 2 >>= _) _ _ s
 refine wpAny_bind (wpAny_field hit rfl (x:=rawInt step) rfl ?_)
 show wpAny _ _ (if left<=0 then _ else _) _ _ s
 rw [if_pos hleft]
 refine wpAny_bind (wpAny_rule ?_)
 refine wpAny_bind ?_
 refine stop_raise (A:=A.in1) hh hch fun h' e k hs hst=>?_
 exact pyNext_stop hst (hQ h' (fun b o' _ e'=>k b o' e') hs)
end
end Mine
set_option Elab.async false
namespace Mine
open PySem PyProof.Rows
inductive Src where
 | list (l:Addr)
 | tup (t:Addr)
 | str (x:Str) (t:Tok)
 | rng (a b:Int)
noncomputable def IterAt (h:Heap) (it:Addr):Src->Nat->Prop
 | .list l,i=>h.IsListIter it l i
 | .tup t,i=>h.IsTupleIter it t i
 | .str x t,i=>h.IsStrIter it "str_ascii_iterator" x t i
 | .rng a b,i=>IsRangeIter h it (a+i) ((if a < b then b - a else 0) - i) 1
noncomputable def SrcOk (B:Bs) (h:Heap):Src->D->Prop
 | .list l,d=>d=.ref l
 | .tup t,d=>∃ds,d=.tup ds/\Rep B h (.tup ds) (.ref t)
 | .str x t,d=>∃l,d=.str l/\Rep B h (.str l) (.str x t)
 | .rng a b,d=>d=.rng a b
theorem IterAt.obj {h:Heap} {it:Addr} {sr:Src} {i:Nat} (x:IterAt h it sr i):∃o T,h.get? it=some o/\o.cls=.type T/\T ≠ "tuple" /\ T ≠ "range" /\ ∃vs,o.data=.fields vs:=by
 cases sr with
 | list l=>obtain ⟨o,e,c,d⟩:=x;exact ⟨o,_,e,c,by decide,by decide,_,d⟩
 | tup t=>obtain ⟨o,e,c,d⟩:=x;exact ⟨o,_,e,c,by decide,by decide,_,d⟩
 | str s t=>obtain ⟨o,e,c,d⟩:=x;exact ⟨o,_,e,c,by decide,by decide,_,d⟩
 | rng a b=>exact ⟨_,_,x,rfl,by decide,by decide,_,rfl⟩
theorem IterAt.not_imm {h:Heap} {it:Addr} {sr:Src} {i:Nat} (x:IterAt h it sr i):∀o,h.get? it=some o->¬Imm o:=by
 obtain ⟨o,T,e,c,h1,h2,_⟩:=x.obj
 intro o' e'
 rw [e] at e';cases e'
 exact fun q=>q.not_type h1 h2 c
theorem IterAt.keep {h h':Heap} {it:Addr} {sr:Src} {i:Nat} (x:IterAt h it sr i) (k:∀o,h.get? it=some o->h'.get? it=some o):IterAt h' it sr i:=by
 cases sr with
 | list l=>obtain ⟨o,e,r⟩:=x;exact ⟨o,k o e,r⟩
 | tup t=>obtain ⟨o,e,r⟩:=x;exact ⟨o,k o e,r⟩
 | str s t=>obtain ⟨o,e,r⟩:=x;exact ⟨o,k o e,r⟩
 | rng a b=>exact k _ x
theorem SrcOk.pres {B:Bs} {h h':Heap} {sr:Src} {d:D} (k:ImmK h h') (x:SrcOk B h sr d):SrcOk B h' sr d:=by
 cases sr with
 | list l=>exact x
 | tup t=>obtain ⟨ds,e,r⟩:=x;exact ⟨ds,e,r.pres k⟩
 | str s t=>obtain ⟨l,e,r⟩:=x;exact ⟨l,e,r.pres k⟩
 | rng a b=>exact x
section
variable {prog:Program} {w:World} {B:Bs} {A:Around} {E:Value->Shared->Prop} {s:Shared} {H:Hp}
theorem RepL.getV {h:Heap} {ds:List D} {vs:List Value} (r:RepL B h ds vs) {i:Nat} {d:D} (hd:ds[i]?=some d):∃v,vs[i]?=some v/\Rep B h d v:=r.get hd
theorem iter_make {d:D} {v:Value} {all:List D} {Q:Value->Shared->Prop} (hi:iterD H d=some all) (hr:Rep B s.heap d v) (C:ConcH B H s.heap)
  (hQ:∀o sr,SrcOk B s.heap sr d->IterAt (s.heap.push o) s.heap.objs.size sr 0->Q (.ref s.heap.objs.size) { s with heap:=s.heap.push o }):wpAny (model prog w) A (pyIter v) Q E s:=by
 unfold iterD at hi
 split at hi
 ·simp only [Rep] at hr
  obtain ⟨hz,hc,t,rfl⟩:=hr
  rename_i l
  refine wpAny_pyIter_ascii (by simpa using hc) (hQ _ (.str ⟨l.toArray⟩ t) ⟨l,rfl,by simp only [Rep];exact ⟨hz,hc,t,rfl⟩⟩ ⟨_,Heap.get?_push_size _ rfl,rfl,rfl⟩)
 ·have hr':=hr
  simp only [Rep] at hr
  obtain ⟨t,vs,n,rfl,g,hz,r⟩:=hr
  exact wpAny_pyIter_tuple ⟨_,g,rfl,n,rfl⟩ (hQ _ (.tup t) ⟨_,rfl,hr'⟩ ⟨_,Heap.get?_push_size _ rfl,rfl,rfl⟩)
 ·simp only [Rep] at hr
  subst hr
  split at hi
  ·rename_i e
   obtain ⟨vs,n,g,_⟩:=C.list e
   exact wpAny_pyIter_list (IsL.isList g) (hQ _ (.list _) rfl ⟨_,Heap.get?_push_size _ rfl,rfl,rfl⟩)
  ·cases hi
 ·split at hi
  ·rename_i hb
   simp only [Rep] at hr
   obtain ⟨r,t,u,q,rfl,g⟩:=hr
   refine wpAny_pyIter_range g ?_ ?_
   ·exact small_one (by exact ul1 (uc1 _) (uN (uK 400000)) u0 (uN (uK 4611686018427387904)) u0 rfl hb.1) (by exact ul1 (uc1 _) u0 (uK 400000) (uA u0 (uK 1)) (uK 4611686018427387904) rfl hb.2.1) (by exact ul1 (uc1 _) (uN (uK 400000)) u0 (uN (uK 4611686018427387904)) u0 rfl hb.2.2.1) (by exact ul1 (uc1 _) u0 (uK 400000) (uA u0 (uK 1)) (uK 4611686018427387904) rfl hb.2.2.2)
   ·rw [rangeSize_one]
    refine hQ _ (.rng _ _) rfl ?_
    show IsRangeIter _ _ _ _ _
    simp only [Int.natCast_zero,Int.add_zero,Int.sub_zero]
    exact Heap.get?_push_size _ rfl
  ·cases hi
 ·cases hi
theorem next_item {it:Addr} {sr:Src} {d:D} {i:Nat} {all:List D} {x:D} {Q:Option Value->Shared->Prop} (hi:iterD H d=some all) (hs:SrcOk B s.heap sr d) (hit:IterAt s.heap it sr i) (C:ConcH B H s.heap) (hx:all[i]?=some x)
  (hQ:∀v h' tk,Rep B h' x v->IterAt h' it sr (i+1)->Heap.SameBut it s.heap h'->Q (some v) { s with heap:=h',toks:=tk }):wpAny (model prog w) A (pyNext (.ref it)) Q E s:=by
 have hni:=hit.not_imm
 cases sr with
 | list l=>
  have:d=.ref l:=hs
  subst this
  simp only [iterD] at hi
  split at hi
  ·rename_i e
   cases hi
   obtain ⟨vs,n,g,_,_,r⟩:=C.list e
   obtain ⟨v,hv,rv⟩:=r.get hx
   exact wpAny_pyNext_list_item hit (IsL.isList g) (by simpa using hv) fun h' hit' hsb=>hQ v h' s.toks (rv.pres (ImmK.but hsb.extBut hni)) hit' hsb
  ·cases hi
 | tup t=>
  obtain ⟨ds,rfl,hr⟩:=hs
  simp only [iterD] at hi
  cases hi
  simp only [Rep] at hr
  obtain ⟨t',vs,n,e,g,hz,r⟩:=hr
  cases e
  obtain ⟨v,hv,rv⟩:=r.get hx
  exact wpAny_pyNext_tuple_item hit ⟨_,g,rfl,n,rfl⟩ (by simpa using hv) fun h' hit' hsb=>hQ v h' s.toks (rv.pres (ImmK.but hsb.extBut hni)) hit' hsb
 | str y t=>
  obtain ⟨l,rfl,hr⟩:=hs
  simp only [iterD] at hi
  cases hi
  simp only [Rep] at hr
  obtain ⟨hz,hc,t',e⟩:=hr
  cases e
  rw [List.getElem?_map] at hx
  cases hl:l[i]? with
  | none=>rw [hl] at hx;cases hx
  | some c=>
   rw [hl] at hx;cases hx
   refine wpAny_pyNext_ascii_item hit (c:=c) (by simpa using hl) fun h' hit' hsb=>hQ _ h' _ ?_ hit' hsb
   simp only [Rep]
   exact ⟨by simp [SZ],fun c' hc'=>by simp at hc';subst hc';exact hc _ (List.mem_of_getElem? hl),_,rfl⟩
 | rng a b=>
  have:d=.rng a b:=hs
  subst this
  simp only [iterD] at hi
  split at hi
  ·cases hi
   unfold intsOf at hx
   rw [List.getElem?_map] at hx
   cases hl:(List.range (b - a).toNat)[i]? with
   | none=>rw [hl] at hx;cases hx
   | some k=>
    rw [hl] at hx;cases hx
    obtain ⟨hlt,hk⟩:=List.getElem?_eq_some_iff.mp hl
    rw [List.getElem_range] at hk
    subst hk
    rw [List.length_range] at hlt
    refine wpAny_pyNext_range_item hit (by split <;> omega) fun h' hit' hsb=>hQ _ h' _ (by simp only [Rep];exact ⟨_,rfl⟩) ?_ hsb
    show IsRangeIter _ _ _ _ _
    have e1:a+((i+1:Nat):Int)=a+i+1:=by exact Int.le_antisymm (ul0 (uc2 _ ((_:Nat):Int)) (uA u0 (uA u1 (uK 1))) (uA (uA u0 u1) (uK 1)) rfl) (ul0 (uc2 _ ((_:Nat):Int)) (uA (uA u0 u1) (uK 1)) (uA u0 (uA u1 (uK 1))) rfl)
    have e2:(if a < b then b - a else 0) - ((i+1:Nat):Int)=(if a < b then b - a else 0) - i - 1:=by split <;> (first | exact Int.le_antisymm (ul0 (uc3 _ _ ((_:Nat):Int)) (uS (uS u0 u1) (uA u2 (uK 1))) (uS (uS (uS u0 u1) u2) (uK 1)) rfl) (ul0 (uc3 _ _ ((_:Nat):Int)) (uS (uS (uS u0 u1) u2) (uK 1)) (uS (uS u0 u1) (uA u2 (uK 1))) rfl) | exact Int.le_antisymm (ul0 (uc1 ((_:Nat):Int)) (uS (uK 0) (uA u0 (uK 1))) (uS (uS (uK 0) u0) (uK 1)) rfl) (ul0 (uc1 ((_:Nat):Int)) (uS (uS (uK 0) u0) (uK 1)) (uS (uK 0) (uA u0 (uK 1))) rfl))
    rw [e1,e2]
    exact hit'
  ·cases hi
theorem next_end {it:Addr} {sr:Src} {d:D} {i:Nat} {all:List D} {Q:Option Value->Shared->Prop} (hh:HandOk A.handled s.heap) (hi:iterD H d=some all) (hs:SrcOk B s.heap sr d) (hit:IterAt s.heap it sr i) (C:ConcH B H s.heap) (hx:i=all.length)
  (hQ:∀h',Heap.ExtBut it s.heap h'->s.heap.objs.size<=h'.objs.size->Q none { s with heap:=h' }):wpAny (model prog w) A (pyNext (.ref it)) Q E s:=by
 obtain ⟨hand,he,hch⟩:=hh
 cases sr with
 | list l=>
  have:d=.ref l:=hs
  subst this
  simp only [iterD] at hi
  split at hi
  ·rename_i e
   cases hi
   obtain ⟨vs,n,g,_,hl,r⟩:=C.list e
   exact next_list_end he hch hit (IsL.isList g) (Array.getElem?_eq_none (by exact jk52 hl hx)) hQ
  ·cases hi
 | tup t=>
  obtain ⟨ds,rfl,hr⟩:=hs
  simp only [iterD] at hi
  cases hi
  simp only [Rep] at hr
  obtain ⟨t',vs,n,e,g,hz,r⟩:=hr
  cases e
  have:=r.length
  simp only [Array.length_toList] at this
  exact next_tuple_end he hch hit ⟨_,g,rfl,n,rfl⟩ (Array.getElem?_eq_none (by exact jk52 this hx)) hQ
 | str y t=>
  obtain ⟨l,rfl,hr⟩:=hs
  simp only [iterD] at hi
  cases hi
  simp only [Rep] at hr
  obtain ⟨hz,hc,t',e⟩:=hr
  cases e
  simp only [List.length_map] at hx
  exact next_ascii_end he hch hit (by simp;exact jl1 (jc2 _ _) j0 j1 j0 j1 rfl (Nat.le_of_eq (Eq.symm hx))) hQ
 | rng a b=>
  have:d=.rng a b:=hs
  subst this
  simp only [iterD] at hi
  split at hi
  ·cases hi
   simp only [intsOf,List.length_map,List.length_range] at hx
   exact next_range_end he hch hit (by split <;> omega) hQ
  ·cases hi
end
end Mine
set_option Elab.async false
namespace Mine
open PySem PyProof.Rows
theorem runs_size {M:Model} {Γ:Ctx} {p:Pos} {t:Sem PySem.Fin} {fs:List Frame} {s s':Shared} {e:End} (h:Runs M Γ p t fs s e s'):s.heap.objs.size<=s'.heap.objs.size:=by
 induction h <;> (try simp only [Shared.setGen,Heap.size_push,Heap.size_after_update] at*) <;> (first | exact jk51 | exact jk23 ‹_› | exact jk53 ‹_› | exact jk2 ‹_› ‹_›)
theorem wakes_size {M:Model} {Γ:Ctx} {p:Pos} {g:Nat} {r:Resume} {s s':Shared} {res:GenResult} (h:Wakes M Γ p g r s res s'):s.heap.objs.size<=s'.heap.objs.size:=by
 unfold Wakes at h
 split at h
 ·exact h.elim
 ·split at h
  ·obtain ⟨e₁,s₁,hr,_,_,rfl⟩:=h;exact (runs_size hr:(s.setGen g .running).heap.objs.size<=s₁.heap.objs.size)
  ·rw [h.2];exact Nat.le_refl _
  ·rw [h.2];exact Nat.le_refl _
 ·obtain ⟨e₁,s₁,hr,_,_,rfl⟩:=h;exact (runs_size hr:(s.setGen g .running).heap.objs.size<=s₁.heap.objs.size)
 ·rw [h.2];exact Nat.le_refl _
 ·rw [h.2];exact Nat.le_refl _
theorem wp_size {α:Type} (M:Model) (Γ:Ctx) (n:Nat) (t:Sem α):∀(Q:α->Pos->Shared->Prop) (E:Value->Pos->Shared->Prop) (p:Pos) (s:Shared),n<=s.heap.objs.size->Sem.wp M Γ t Q E p s ->
  Sem.wp M Γ t (fun a p' s'=>n<=s'.heap.objs.size/\Q a p' s') (fun e p' s'=>n<=s'.heap.objs.size/\E e p' s') p s:=by
 induction t with
 | load a _ k ih=>intro Q E p s hn h;obtain ⟨o,ho,h⟩:=h;exact ⟨o,ho,ih o Q E p s hn h⟩
 | update a _ f k ih=>intro Q E p s hn h;exact ⟨h.1,ih () Q E p _ (by simpa using hn) h.2⟩
 | alloc o k ih=>intro Q E p s hn h;exact ih _ Q E p _ (by simp only [Heap.size_push];exact jk24 hn) h
 | choose src m k ih=>intro Q E p s hn h;exact ⟨h.1,ih _ Q E p _ hn h.2⟩
 | call c hd _ _ k ih=>intro Q E p s hn h;obtain ⟨r,s',hr,h⟩:=h;exact ⟨r,s',hr,ih r Q E p s' (Nat.le_trans hn (runs_size hr)) h⟩
 | genState g k ih=>intro Q E p s hn h;obtain ⟨st,hs,h⟩:=h;exact ⟨st,hs,ih _ Q E p s hn h⟩
 | resume g r _ k ih=>intro Q E p s hn h;obtain ⟨res,s',hw,h⟩:=h;exact ⟨res,s',hw,ih res Q E p s' (Nat.le_trans hn (wakes_size hw)) h⟩
 | _=>intro Q E p s hn h;first | exact ⟨hn,h⟩ | exact h | (rename_i ih;exact ih _ Q E _ _ hn h)
theorem wpAny_size {α:Type} {M:Model} {A:Around} {s:Shared} {t:Sem α} {Q:α->Shared->Prop} {E:Value->Shared->Prop} (h:wpAny M A t (fun a s'=>s.heap.objs.size<=s'.heap.objs.size->Q a s') E s):wpAny M A t Q E s:=by
 have k:wpAny M A t (fun a s'=>s.heap.objs.size<=s'.heap.objs.size/\(s.heap.objs.size<=s'.heap.objs.size->Q a s')) (fun e s'=>s.heap.objs.size<=s'.heap.objs.size/\E e s') s:=
  fun Γ p hΓ=>wp_size M Γ s.heap.objs.size t _ _ p s (Nat.le_refl _) (h Γ p hΓ)
 exact wpAny_mono k (fun _ _ x=>x.2 x.1) (fun _ _ x=>x.2)
end Mine
set_option Elab.async false
namespace Mine
open PySem PyProof.Rows
theorem Chain.at_ {h h':Heap}:∀{l:List Addr},(∀b∈l,∀o,h.get? b=some o->h'.get? b=some o)->Chain h l->Chain h' l
 | [],_,_=>trivial
 | [a],k,⟨o,C,vs,e,r⟩=>⟨o,C,vs,k a (List.mem_cons_self ..) o e,r⟩
 | a::b::r,k,⟨⟨o,C,vs,e,q⟩,y⟩=>⟨⟨o,C,vs,k a (List.mem_cons_self ..) o e,q⟩,Chain.at_ (fun b' hb=>k b' (List.mem_cons_of_mem _ hb)) y⟩
section
variable {prog:Program} {w:World} {B:Bs} {A:Around} {E:Value->Shared->Prop} {s:Shared}
theorem walks_tuple {hand:List Addr} (he:A.handled=hand.head?.map Value.ref) (I ax:Addr) (hne:ax≠I) (hI:I∉hand) (items:Array Value) :
  Walks prog w A I (I::ax::hand) [I] items.size (fun i v=>items[i]?=some v) (fun i h=>h.IsTupleIter I ax i/\h.IsTuple ax items/\Chain h hand) where
 sub:=fun b hb=>by simp at hb;simp [hb]
 frame:=fun _ _ _ st hk=>⟨st.1.at fun o e=>hk I (by simp) o e,st.2.1.at fun o e=>hk ax (by simp) o e,Chain.at_ (fun b hb o e=>hk b (by simp [hb]) o e) st.2.2⟩
 item:=fun i s Q E hi st hQ=>by
  refine wpAny_pyNext_tuple_item st.1 st.2.1 (x:=items[i]) (by simp [hi]) fun h' hit' hs'=>?_
  exact hQ _ h' s.toks (by simp [hi]) ⟨hit',st.2.1.extBut hs'.extBut hne,Chain.at_ (fun b hb o e=>hs'.extBut b o (fun q=>hI (q ▸ hb)) e) st.2.2⟩ fun b o hb e=>hs'.extBut b o (fun h=>hb (by simp [h])) e
 done:=fun s Q E st hQ=>next_tuple_end he st.2.2 st.1 st.2.1 (by simp) fun h' he' _=>hQ h' s.toks fun b o hb e=>he' b o (fun h=>hb (by simp [h])) e
 self:=fun _ _ _ _ st hQ=>wpAny_pyIter_tupleiter st.1 hQ
theorem two_ints {op:CmpOp} {a b:Int} {t u:Tok} {hand:List Addr} (he:A.handled=hand.head?.map Value.ref) (hch:Chain s.heap hand) {Q:Value->Shared->Prop} {bt:Nat->Nat->Bool} (hbt:CmpOf prog w A.in1 op (fun i v=>(intItems #[(a,t),(b,u)])[i]?=some v) bt)
  (h:∀v h' tk,(intItems #[(a,t),(b,u)])[argBest bt 1]?=some v->(∀c o,s.heap.get? c=some o->h'.get? c=some o)->Q v { s with heap:=h',toks:=tk }) :
  wpAny (model prog w) A.in1 (pyIter (.ref s.heap.objs.size)) (fun it s₂=>∃I fp wr n P St bt,it=.ref I/\Walks prog w A.in1 I fp wr n P St/\St 0 s₂.heap/\(∀b∈fp,b < s₂.heap.objs.size)/\0 < n/\CmpOf prog w A.in1 op P bt /\
   ∀v h' tk,P (argBest bt (n - 1)) v->(∀b o,b∉wr->s₂.heap.get? b=some o->h'.get? b=some o)->Q v { s₂ with heap:=h',toks:=tk }) E
   { s with heap:=s.heap.push { cls:=.type "tuple",data:=.seq #[.int a t,.int b u] } }:=by
 have hlt:∀b∈hand,b < s.heap.objs.size:=fun b hb=>Chain.lt hch b hb
 have hT:(s.heap.push { cls:=.type "tuple",data:=.seq #[.int a t,.int b u] }).IsTuple s.heap.objs.size (intItems #[(a,t),(b,u)]):=⟨_,Heap.get?_push_size _ rfl,rfl,0,by simp [intItems]⟩
 refine wpAny_pyIter_tuple hT ?_
 have hsz:(s.heap.push { cls:=.type "tuple",data:=.seq #[.int a t,.int b u] }).objs.size=s.heap.objs.size+1:=Heap.size_push ..
 have hch2:Chain ((s.heap.push { cls:=.type "tuple",data:=.seq #[.int a t,.int b u] }).push { cls:=.type "tuple_iterator",data:=.fields #[.ref s.heap.objs.size,.int 0 0] }) hand:=
  Chain.at_ (fun b _ o e=>Heap.get?_push_of_some _ (Heap.get?_push_of_some _ e)) hch
 refine ⟨_,_,_,_,_,_,bt,rfl,walks_tuple (A:=A.in1) he _ s.heap.objs.size (by rw [hsz];exact Nat.ne_of_lt (Nat.lt_succ_self _)) (fun q=>absurd (hlt _ q) (by rw [hsz];exact Nat.not_lt.mpr (Nat.le_succ _))) (intItems #[(a,t),(b,u)]),
  ⟨⟨_,Heap.get?_push_size _ rfl,rfl,rfl⟩,hT.push _,hch2⟩,fun c hc=>?_,by simp [intItems],hbt,fun v h' tk hP hk=>?_⟩
 ·show c < ((s.heap.push _).push _).objs.size
  rw [Heap.size_push,hsz]
  rcases List.mem_cons.mp hc with rfl | hc
  ·rw [hsz];exact Nat.lt_succ_self _
  ·rcases List.mem_cons.mp hc with rfl | hc
   ·exact Nat.lt_succ_of_lt (Nat.lt_succ_self _)
   ·exact Nat.lt_succ_of_lt (Nat.lt_succ_of_lt (hlt c hc))
 ·refine h v h' tk (by simpa [intItems] using hP) fun c o e=>?_
  refine hk c o (fun hm=>?_) (Heap.get?_push_of_some _ (Heap.get?_push_of_some _ e))
  rcases List.mem_cons.mp hm with e1 | hm
  ·have:=Heap.lt_size e;rw [e1,hsz] at this;exact Nat.lt_irrefl _ (Nat.lt_of_succ_lt this)
  ·cases hm
theorem min_two {a b:Int} {t u:Tok} {Q:Value->Shared->Prop} (hh:HandOk A.handled s.heap) (h:∀v h' tk,(∃z,v=.int (min a b) z)->(∀c o,s.heap.get? c=some o->h'.get? c=some o)->Q v { s with heap:=h',toks:=tk }) :
  wpAny (model prog w) A (call (.builtin "min") [.int a t,.int b u]) Q E s:=by
 obtain ⟨hand,he,hch⟩:=hh
 refine call_min_two (two_ints he hch (CmpOf.ints_lt (numAt #[(a,t),(b,u)]) (fun _ _=>intItems_at)) fun v h' tk hP hk=>h v h' tk ?_ hk)
 by_cases hba:b < a
 ·have e:argBest (fun i j=>decide (numAt #[(a,t),(b,u)] i < numAt #[(a,t),(b,u)] j)) 1=1:=by simp [argBest,numAt,hba]
  rw [e] at hP
  have:v=.int b u:=by simpa [intItems] using hP.symm
  exact ⟨u,by rw [this,Int.min_eq_right (by exact ul1 (uc2 _ _) (uA u0 (uK 1)) u1 u0 u1 rfl hba)]⟩
 ·have e:argBest (fun i j=>decide (numAt #[(a,t),(b,u)] i < numAt #[(a,t),(b,u)] j)) 1=0:=by simp [argBest,numAt,hba]
  rw [e] at hP
  have:v=.int a t:=by simpa [intItems] using hP.symm
  exact ⟨t,by rw [this,Int.min_eq_left (by exact jk9 hba)]⟩
end
end Mine
set_option Elab.async false
namespace Mine
open PySem PyProof.Rows
noncomputable def bval:BI->Value
 | .len=>.builtin "len"
 | .isinst=>.builtin "isinstance"
 | .range1=>.type "range"
 | .range2=>.type "range"
 | .min2=>.builtin "min"
 | .int=>.type "int"
 | .str=>.type "str"
 | .list=>.type "list"
section
variable {prog:Program} {w:World} {B:Bs} {T:Tab} {A:Around} {E:Value->Shared->Prop} {s:Shared} {H:Hp} {Q:D->Hp->Prop}
theorem isi5 {a:Value} {c:Nat} {b:Bool} {f:Nat->Bool} {Q:Value->Shared->Prop} (hB:BOk prog w B T) (h:(if 10<=c/\c<=14 then some (f c) else none)=some b) (hq:∀tk,Q (.bool b) { s with toks:=tk })
  (h10:(∀tk,Q (.bool (f 10)) { s with toks:=tk })->wpAny (model prog w) A (call (.builtin "isinstance") [a,.type "str"]) Q E s) (h11:(∀tk,Q (.bool (f 11)) { s with toks:=tk })->wpAny (model prog w) A (call (.builtin "isinstance") [a,.type "int"]) Q E s)
  (h12:(∀tk,Q (.bool (f 12)) { s with toks:=tk })->wpAny (model prog w) A (call (.builtin "isinstance") [a,.type "bool"]) Q E s) (h13:(∀tk,Q (.bool (f 13)) { s with toks:=tk })->wpAny (model prog w) A (call (.builtin "isinstance") [a,.type "tuple"]) Q E s)
  (h14:(∀tk,Q (.bool (f 14)) { s with toks:=tk })->wpAny (model prog w) A (call (.builtin "isinstance") [a,.type "list"]) Q E s):wpAny (model prog w) A (call (.builtin "isinstance") [a,B.clsv c]) Q E s:=by
 by_cases hc:10<=c/\c<=14
 ·rw [if_pos hc] at h
  cases h
  have five0:∀k,k < 5->(10+k=10\/10+k=11\/10+k=12\/10+k=13\/10+k=14):=by decide
  obtain ⟨k,rfl⟩:=Nat.exists_eq_add_of_le hc.1
  rcases five0 k (Nat.lt_of_add_lt_add_left (Nat.lt_succ_of_le hc.2)) with e | e | e | e | e <;> rw [e] at hq ⊢
  ·rw [hB.ty10];exact h10 hq
  ·rw [hB.ty11];exact h11 hq
  ·rw [hB.ty12];exact h12 hq
  ·rw [hB.ty13];exact h13 hq
  ·rw [hB.ty14];exact h14 hq
 ·rw [if_neg hc] at h;cases h
theorem isi_sound {x:D} {a:Value} {c:Nat} {b:Bool} {Q:Value->Shared->Prop} (hB:BOk prog w B T) (hb:B.base.StaysIn s.heap) (hcc:c<=6->∃C,B.clsv c=.ref C) (h:isI H x c=some b) (hx:Rep B s.heap x a) (C:ConcH B H s.heap) (hq:∀tk,Q (.bool b) { s with toks:=tk }) :
  wpAny (model prog w) A (call (.builtin "isinstance") [a,B.clsv c]) Q E s:=by
 cases x <;> try exact noSome h
 ·simp only [Rep] at hx
  subst hx
  exact isi5 (f:=fun _=>false) hB h hq (fun q=>IsiPair.NoneType_str (q _)) (fun q=>IsiPair.NoneType_int (q _)) (fun q=>IsiPair.NoneType_bool (q _)) (fun q=>IsiPair.NoneType_tuple (q _)) fun q=>IsiPair.NoneType_list (q _)
 ·simp only [Rep] at hx
  subst hx
  exact isi5 (f:=fun c=>c==11||c==12) hB h hq (fun q=>IsiPair.bool_str (q _)) (fun q=>IsiPair.bool_int (q _)) (fun q=>IsiPair.bool_bool (q _)) (fun q=>IsiPair.bool_tuple (q _)) fun q=>IsiPair.bool_list (q _)
 ·simp only [Rep] at hx
  obtain ⟨t,rfl⟩:=hx
  exact isi5 (f:=fun c=>c==11) hB h hq (fun q=>IsiPair.int_str (q _)) (fun q=>IsiPair.int_int (q _)) (fun q=>IsiPair.int_bool (q _)) (fun q=>IsiPair.int_tuple (q _)) fun q=>IsiPair.int_list (q _)
 ·simp only [Rep] at hx
  obtain ⟨_,_,t,rfl⟩:=hx
  exact isi5 (f:=fun c=>c==10) hB h hq (fun q=>IsiPair.str_str (q _)) (fun q=>IsiPair.str_int (q _)) (fun q=>IsiPair.str_bool (q _)) (fun q=>IsiPair.str_tuple (q _)) fun q=>IsiPair.str_list (q _)
 ·simp only [Rep] at hx
  obtain ⟨t,vs,n,rfl,g,_⟩:=hx
  have g':s.heap.IsTuple t vs:=⟨_,g,rfl,n,rfl⟩
  exact isi5 (f:=fun c=>c==13) hB h hq (fun q=>IsiPair.isTuple_str g' (fun _ _ e=>e) (q _)) (fun q=>IsiPair.isTuple_int g' (fun _ _ e=>e) (q _)) (fun q=>IsiPair.isTuple_bool g' (fun _ _ e=>e) (q _)) (fun q=>IsiPair.isTuple_tuple g' (fun _ _ e=>e) (q _)) fun q=>IsiPair.isTuple_list g' (fun _ _ e=>e) (q _)
 ·rename_i r
  cases e:H r with
  | none=>have h:(match H r with | some (.list _)=>if 10<=c/\c<=14 then some (c==14) else none | _=>none)=some b:=h;rw [e] at h;cases h
  | some ob=>
   have h:(match H r with | some (.list _)=>if 10<=c/\c<=14 then some (c==14) else none | _=>none)=some b:=h
   rw [e] at h
   cases ob with
   | robj _ _=>cases h
   | aux _=>cases h
   | list l=>
    simp only [Rep] at hx
    subst hx
    obtain ⟨vs,n,g,_⟩:=C.list e
    have g':=IsL.isList g
    exact isi5 (f:=fun c=>c==14) hB h hq (fun q=>IsiPair.isList_str g' (fun _ _ e=>e) (q _)) (fun q=>IsiPair.isList_int g' (fun _ _ e=>e) (q _)) (fun q=>IsiPair.isList_bool g' (fun _ _ e=>e) (q _)) (fun q=>IsiPair.isList_tuple g' (fun _ _ e=>e) (q _)) fun q=>IsiPair.isList_list g' (fun _ _ e=>e) (q _)
 ·-- an exception
  rename_i z k
  replace h:(if k<=6/\(c<=6\/c=15) then some (c==0||c==k||c==15) else none)=some b:=h
  by_cases hc:k<=6/\(c<=6\/c=15)
  ·rw [if_pos hc] at h
   cases h
   simp only [Rep] at hx
   obtain ⟨rfl,o,us,C',g1,g2,g3,_⟩:=hx
   exact hB.isx hb g1 g2 g3 (hc.2.imp (fun z=>hcc z) id) fun tk=>hq tk
  ·rw [if_neg hc] at h;cases h
theorem RepL.one {h:Heap} {d:D} {vs:List Value} (r:RepL B h [d] vs):∃v,vs=[v]/\Rep B h d v:=by
 simp only [RepL] at r
 obtain ⟨v,r',rfl,h1,rfl⟩:=r
 exact ⟨v,rfl,h1⟩
theorem RepL.two {h:Heap} {d e:D} {vs:List Value} (r:RepL B h [d,e] vs):∃v u,vs=[v,u]/\Rep B h d v/\Rep B h e u:=by
 simp only [RepL] at r
 obtain ⟨v,r',rfl,h1,u,r2,rfl,h2,rfl⟩:=r
 exact ⟨v,u,rfl,h1,h2⟩
theorem post_newlistAt {vs:Array Value} {ds:List D} {h':Heap} {n:Nat} (C:ConcH B H s.heap) (hb:B.base.StaysIn s.heap) (k:∀a o,s.heap.get? a=some o->h'.get? a=some o) (hl:IsL h' s.heap.objs.size vs n)
  (hr:RepL B s.heap ds vs.toList) (hz:ds.length<=SZ) (hq:∀c,H c=none->Q (.ref c) (H.set c (.list ds))):CallPost B H s Q (.ref s.heap.objs.size) { s with heap:=h' }:=by
 refine ⟨.ref s.heap.objs.size,H.set s.heap.objs.size (.list ds),by simp only [Rep],?_,fun a o e=>k a o (hb a o e),keep_new k (Nat.le_of_lt (Heap.lt_size hl)),hq _ C.fresh⟩
 intro a ob e
 by_cases q:a=s.heap.objs.size
 ·subst q
  rw [Hp.set_self] at e;cases e
  exact ⟨⟨vs,n,hl,by have:=hr.length;simp only [Array.length_toList] at this;exact jk7 this hz,hr.pres (.grow k)⟩,base_fresh hb⟩
 ·rw [Hp.set_other _ _ q] at e
  obtain ⟨x,y⟩:=C a ob e
  refine ⟨x.pres (.grow k) (fun o g=>k a o g) fun d t qq=>?_,y⟩
  subst qq
  have hd:=RoAt.aux x
  refine ⟨?_,fun o g=>k d o g⟩
  rw [Hp.set_other];exact hd
  intro z;subst z;rw [C.fresh] at hd;cases hd
theorem len_sound {d:D} {v:Value} (hB:BOk prog w B T) (h:vLen d B.ns H Q) (r:Rep B s.heap d v) (C:ConcH B H s.heap) (hb:B.base.StaysIn s.heap):wpAny (model prog w) A (call (.builtin "len") [v]) (CallPost B H s Q) E s:=by
 have hsz:=SZ_lt
 have hline:=SZ_le
 cases d <;> try exact False.elim h
 ·simp only [Rep] at r
  obtain ⟨hz,_,t,rfl⟩:=r
  refine PyProof.Rows.len_str (by simp only [Str.length,List.size_toArray];exact jk54 hsz hz) (post_same C hb ?_ h rfl)
  exact rep_int
 ·simp only [Rep] at r
  obtain ⟨t,vs,n,rfl,g,hz,rl⟩:=r
  have hl:=rl.length
  simp only [Array.length_toList] at hl
  refine P.len_tuple g (by exact jk54 hsz hz) (post_same C hb ?_ h rfl)
  rw [hl];exact rep_int
 ·simp only [Rep] at r
  subst r
  obtain ⟨l,e,hq⟩:=h
  obtain ⟨vs,n,g,hz,hl,_⟩:=C.list e
  refine Calls.call_len_list (IsL.isList g) (by exact ul2 (uc2 ((_:Nat):Int) ((_:Nat):Int)) (uA u1 (uK 1)) (uK 4611686018427387904) u0 u1 (uA u0 (uK 1)) (uK 9223372036854775808) rfl hsz (Int.ofNat_le.mpr hz)) (post_same C hb ?_ hq rfl)
  rw [hl];exact rep_int
 ·simp only [Rep] at r
  subst r
  obtain ⟨vs,n,g,rl,hn⟩:=hB.scr
  have hl:=rl.length
  simp only [Array.length_toList,List.length_map] at hl
  refine Calls.call_len_list (IsL.isList (hb _ _ g)) (by exact ul2 (uc2 ((_:Nat):Int) ((_:Nat):Int)) u0 u1 u1 (uK 63) (uA u0 (uK 1)) (uK 9223372036854775808) rfl (Int.ofNat_le.mpr (Nat.le_of_eq hl)) (Int.ofNat_le.mpr hn)) (post_same C hb ?_ h rfl)
  rw [hl];exact rep_int
theorem dig_str:∀n:Nat,n < 100->Str.ofString (toString (n:Int))=⟨(dig n).toArray⟩:=by decide+kernel
theorem dig_len:∀n:Nat,n < 100->(dig n).length<=SZ:=by decide+kernel
theorem dig_asc:∀n:Nat,n < 100->∀c∈dig n,c < 128:=by decide+kernel
theorem bi_sound {b:BI} {ds:List D} {vals:List Value} (hB:BOk prog w B T) (h:vBi b ds B.ns H Q) (hr:RepL B s.heap ds vals) (C:ConcH B H s.heap) (hb:B.base.StaysIn s.heap) (hh:HandOk A.handled s.heap) :
  wpAny (model prog w) A (call (bval b) vals) (CallPost B H s Q) E s:=by
 have hsz:=SZ_lt
 have hline:=SZ_le
 revert hr
 cases b <;> try exact False.elim h
 ·refine inv_k1 h fun d h=>?_
  intro hr
  obtain ⟨v,rfl,r⟩:=hr.one
  exact len_sound hB h r C hb
 ·refine inv_k2 h fun d e h=>?_
  refine inv_kc h fun c h=>?_
  intro hr
  obtain ⟨v,u,rfl,r1,r2⟩:=hr.two
  simp only [Rep] at r2
  obtain ⟨rfl,hcc⟩:=r2
  obtain ⟨q,e,hq⟩:=h
  exact isi_sound hB hb hcc e r1 C fun tk=>post_same C hb rep_bool hq rfl
 ·refine inv_k1 h fun d h=>?_
  refine inv_ki h fun i h=>?_
  intro hr
  obtain ⟨v,rfl,r⟩:=hr.one
  simp only [Rep] at r
  obtain ⟨t,rfl⟩:=r
  refine call_range_1 (post_grow C hb (push_keep _) (push_size_le _) ?_ h)
  simp only [Rep]
  exact ⟨_,_,_,_,rfl,IsRange.new ..⟩
 ·refine inv_k2 h fun d e h=>?_
  refine inv_ki h fun i h=>?_
  refine inv_ki h fun j h=>?_
  intro hr
  obtain ⟨v,u,rfl,r1,r2⟩:=hr.two
  simp only [Rep] at r1 r2
  obtain ⟨t,rfl⟩:=r1
  obtain ⟨t',rfl⟩:=r2
  refine call_range_2 (post_grow C hb (push_keep _) (push_size_le _) ?_ h)
  simp only [Rep]
  exact ⟨_,_,_,_,rfl,IsRange.new ..⟩
 ·refine inv_k2 h fun d e h=>?_
  refine inv_ki h fun i h=>?_
  refine inv_ki h fun j h=>?_
  intro hr
  obtain ⟨v,u,rfl,r1,r2⟩:=hr.two
  simp only [Rep] at r1 r2
  obtain ⟨t,rfl⟩:=r1
  obtain ⟨t',rfl⟩:=r2
  refine wpAny_size (min_two hh fun v h' tk hv hk hz=>?_)
  obtain ⟨z,rfl⟩:=hv
  exact post_grow C hb hk hz rep_int h
 ·refine inv_k1 h fun d h=>?_
  intro hr
  obtain ⟨v,rfl,r⟩:=hr.one
  have h:vInt d H Q:=h
  cases d <;> try exact False.elim h
  ·simp only [Rep] at r
   subst r
   exact call_int_bool (post_same C hb rep_int h rfl)
  ·simp only [Rep] at r
   obtain ⟨_,_,t,rfl⟩:=r
   obtain ⟨h1,h2,h3,hq⟩:=h
   refine PySem.W.KIN.call_text (PySem.intText_digits (x:=⟨_⟩) (fun c hc=>of_decide_eq_true (List.all_eq_true.mp h3 c hc)) (fun e=>?_) ?_) ?_ (post_same C hb rep_int hq rfl)
   ·have e:=congrArg List.length e
    rw [List.length_nil] at e
    exact absurd h1 (by rw [show _=0 from e];decide)
   ·exact Nat.le_trans (Nat.le_of_eq (List.size_toArray ..)) (Nat.le_trans h2 (by decide))
   ·exact Nat.le_trans (Nat.le_of_eq (List.size_toArray ..)) (Nat.le_trans h2 (by decide))
 ·refine inv_k1 h fun d h=>?_
  refine inv_ki h fun i h=>?_
  intro hr
  obtain ⟨v,rfl,r⟩:=hr.one
  simp only [Rep] at r
  obtain ⟨t,rfl⟩:=r
  obtain ⟨h0,h1,hq⟩:=h
  have e:=dig_str i.toNat (by exact jk25 h1)
  rw [Int.toNat_of_nonneg h0] at e
  refine PySem.P.str_of_int (Nat.lt_of_le_of_lt (Nat.log2_le_self _) (by omega)) ?_
  rw [e]
  exact post_same C hb (by simp only [Rep];exact ⟨dig_len _ (by exact jk25 h1),dig_asc _ (by exact jk25 h1),_,rfl⟩) hq rfl
 ·refine inv_k1 h fun d h=>?_
  refine inv_kr h fun i h=>?_
  intro hr
  obtain ⟨v,rfl,r⟩:=hr.one
  simp only [Rep] at r
  subst r
  obtain ⟨l,e,hq⟩:=h
  obtain ⟨vs,n,g,hz,hl,rl⟩:=C.list e
  exact call_list_seq _ (.inl rfl) g rfl rfl (fun h' c' k hL=>post_newlistAt C hb k hL rl (by exact jk14 hl hz) hq) (by exact jk2 hz hline)
end
end Mine
set_option Elab.async false
set_option maxRecDepth 100000
namespace Mine
open PySem PyProof.Rows
section
variable {prog:Program} {w:World} {A:Around} {E:Value->Shared->Prop} {s:Shared}
theorem loadIfAlive_ {M:Model} {a:Addr} {Q:Option Obj->Shared->Prop} (h:Q (s.heap.get? a) s):wpAny M A (loadIfAlive a) Q E s:=fun Γ p _=>by
 show Sem.wp M Γ (.loadIfAlive a .pure) _ _ p s
 rw [Sem.wp_loadIfAlive];exact h
theorem draw_item {it t:Addr} {i:Nat} {items} {x:Value} {Q:Value->Shared->Prop} (hit:s.heap.IsTupleIter it t i) (ht:s.heap.IsTuple t items) (hx:items[i]?=some x)
  (hQ:∀h',h'.IsTupleIter it t (i+1)->Heap.SameBut it s.heap h'->Q x { s with heap:=h' }):wpAny (model prog w) A (Builtin.SmallTypes.nextOf (.ref it)) Q E s:=by
 obtain ⟨o,ho,hc,hd⟩:=id hit
 obtain ⟨ol,hol,_,nl,hdl⟩:=ht
 unfold Builtin.SmallTypes.nextOf
 refine wpAny_bind (wpAny_callSpecial?_slot (name:=Str.ofString "__next__") hit.typeIs F.slot_tuple_iterator_next (wpAny_call_entry F.slot_tuple_iterator_next hit.typeIs F.entry_tuple_iterator_next ?_ (F.args_tuple_iterator_next_1 _)))
 show wpAny _ _ (field (.ref it) 0 >>= _) _ _ s
 refine wpAny_bind (wpAny_field ho hd (x:=.ref t) rfl ?_)
 show wpAny _ _ (if (Value.ref t==Value.none)=true then _ else _) _ _ s
 rw [if_neg (show ¬((Value.ref t==Value.none)=true) from Bool.false_ne_true)]
 show wpAny _ _ (field (.ref it) 1 >>= _) _ _ s
 refine wpAny_bind (wpAny_field ho hd (x:=.int i 0) rfl ?_)
 show wpAny _ _ (seqItems? (.ref t) >>= _) _ _ s
 refine wpAny_bind (wpAny_seqItems hol hdl ?_)
 simp only [Int.toNat_natCast,hx]
 refine wpAny_bind (wpAny_setField ho hd (by simp) (wpAny_pure ⟨x,rfl,wpAny_pure (hQ _ ?_ (Heap.SameBut.update ..))⟩))
 exact ⟨_,Heap.get?_update_self _ ho (Obj.isFreed_of_fields (Obj.data_mapFields hd _)),(Obj.cls_mapFields ..).trans hc,by rw [Obj.data_mapFields hd];simp [rawInt]⟩
theorem draw_end {it t:Addr} {i:Nat} {items} {Q:Value->Shared->Prop} {hand:List Addr} (hh:A.handled=hand.head?.map Value.ref) (hch:Chain s.heap hand) (hit:s.heap.IsTupleIter it t i) (hl:s.heap.IsTuple t items) (hx:items[i]?=none)
  (hE:∀h' e,Heap.ExtBut it s.heap h'->s.heap.objs.size<=h'.objs.size->(∃o,h'.get? e=some o/\o.cls=.type "StopIteration")->E (.ref e) { s with heap:=h' }):wpAny (model prog w) A (Builtin.SmallTypes.nextOf (.ref it)) Q E s:=by
 obtain ⟨o,ho,hc,hd⟩:=id hit
 obtain ⟨ol,hol,_,nl,hdl⟩:=hl
 have hni:¬Imm o:=fun q=>q.not_type (by decide) (by decide) hc
 unfold Builtin.SmallTypes.nextOf
 refine wpAny_bind (wpAny_callSpecial?_slot (name:=Str.ofString "__next__") hit.typeIs F.slot_tuple_iterator_next (wpAny_call_entry F.slot_tuple_iterator_next hit.typeIs F.entry_tuple_iterator_next ?_ (F.args_tuple_iterator_next_1 _)))
 show wpAny _ _ (field (.ref it) 0 >>= _) _ _ s
 refine wpAny_bind (wpAny_field ho hd (x:=.ref t) rfl ?_)
 show wpAny _ _ (if (Value.ref t==Value.none)=true then _ else _) _ _ s
 rw [if_neg (show ¬((Value.ref t==Value.none)=true) from Bool.false_ne_true)]
 show wpAny _ _ (field (.ref it) 1 >>= _) _ _ s
 refine wpAny_bind (wpAny_field ho hd (x:=.int i 0) rfl ?_)
 show wpAny _ _ (seqItems? (.ref t) >>= _) _ _ s
 refine wpAny_bind (wpAny_seqItems hol hdl ?_)
 simp only [Int.toNat_natCast,hx]
 refine wpAny_bind (wpAny_rule (wpAny_bind (wpAny_setField ho hd (by simp) ?_)))
 have hb:Heap.ExtBut it s.heap (s.heap.update it (Obj.mapFields (·.setIfInBounds 0 Value.none))):=(Heap.SameBut.update ..).extBut
 refine stop_raise (A:=A.in1) hh (hch.pres (ImmK.but hb fun o' e=>by rw [ho] at e;cases e;exact hni)) fun h' e k hs hst=>?_
 exact hE h' e (fun b o' hb' e'=>k b o' (hb b o' hb' e')) (by simpa using hs) hst
noncomputable abbrev IsZ (h:Heap) (z TI TO:Addr) (f0 f1:Value):Prop:=
 h.get? z=some { cls:=.type "zip",dict:=none,data:=.fields #[f0,f1,.bool false,.ref TI,.ref TO],slots:=#[] }
theorem zip_more {z TI TO i1 i2 t1 t2 T:Addr} {k:Nat} {xs ys:Array Value} {x y f1:Value} {oT:Obj} {Q:Value->Shared->Prop} (D:ZipApart z TI TO i1 i2 t1 t2)
  (hz:IsZ s.heap z TI TO (rawInt T) f1) (hT:s.heap.get? T=some oT) (hTI:IsPair s.heap TI (.ref i1) (.ref i2))
  (h1:s.heap.IsTupleIter i1 t1 k) (h2:s.heap.IsTupleIter i2 t2 k) (l1:s.heap.IsTuple t1 xs) (l2:s.heap.IsTuple t2 ys) (hx:xs[k]?=some x) (hy:ys[k]?=some y)
  (hQ:∀h' f1,IsZ h' z TI TO (rawInt T) f1->h'.IsTupleIter i1 t1 (k+1)->h'.IsTupleIter i2 t2 (k+1)->h'.get? s.heap.objs.size=some { cls:=.type "tuple",data:=.seq #[x,y] }->h'.objs.size=s.heap.objs.size+1 ->
   (∀c o,c≠z->c≠i1->c≠i2->s.heap.get? c=some o->h'.get? c=some o)->Q (.ref s.heap.objs.size) { s with heap:=h' }) :
  wpAny (model prog w) A (Builtin.«zip.__next__» ⟨[.ref z],[]⟩) (fun fin s'=>∃v,fin=.done (.ret v)/\Q v s') E s:=by
 obtain ⟨hp,g,d,tk,os⟩:=s
 show wpAny _ _ (field (.ref z) 2 >>= _) _ _ _
 refine wpAny_bind (wpAny_field hz rfl (x:=.bool false) rfl ?_)
 show wpAny _ _ (field (.ref z) 3 >>= _) _ _ _
 refine wpAny_bind (wpAny_field hz rfl (x:=.ref TI) rfl ?_)
 refine wpAny_bind (wpAny_seqItems hTI rfl ?_)
 show wpAny _ _ (Builtin.SmallTypes.ownedTupleIsFree (.ref z) >>= _) _ _ _
 refine wpAny_bind ?_
 unfold Builtin.SmallTypes.ownedTupleIsFree
 refine wpAny_bind (wpAny_field hz rfl (x:=rawInt T) rfl ?_)
 show wpAny _ _ (loadIfAlive ((T:Int)).toNat >>= _) _ _ _
 refine wpAny_bind (loadIfAlive_ ?_)
 rw [Int.toNat_natCast,hT,if_neg (by simp)]
 refine wpAny_bind (wpAny_field hz rfl (x:=f1) rfl ?_)
 refine wpAny_mono (Q:=fun a s'=>a=false/\∃h0 f1',s'=⟨h0,g,d,tk,os⟩/\IsZ h0 z TI TO (rawInt T) f1'/\Heap.SameBut z hp h0) ?_ (fun a s' hp=>?_) fun _ _ q=>q
 ·refine wpAny_ite_split (fun _=>wpAny_bind (wpAny_setField_rec hz (by simp) fun h0 hz0 hs0=>wpAny_pure ⟨rfl,h0,_,rfl,hz0,hs0⟩)) fun _=>wpAny_pure ⟨rfl,hp,f1,rfl,hz,.refl _ _⟩
 obtain ⟨rfl,h0,f1',rfl,hz0,hs0⟩:=hp
 show wpAny _ _ (forIn (#[Value.ref i1,.ref i2]:Array Value) _ _ >>= _) _ _ _
 rw [<-Array.forIn_toList]
 simp only [List.forIn_cons,List.forIn_nil]
 refine wpAny_bind (wpAny_bind (wpAny_bind (wpAny_holding ?_)))
 show wpAny _ _ (Builtin.SmallTypes.nextOf (.ref i1) >>= _) _ _ _
 refine wpAny_bind (draw_item (h1.extBut hs0.extBut D.i1z) (l1.extBut hs0.extBut D.l1z) hx fun h₂ h1₂ hs₂=>wpAny_pure (wpAny_pure ?_))
 refine wpAny_bind (wpAny_bind (wpAny_holding ?_))
 show wpAny _ _ (Builtin.SmallTypes.nextOf (.ref i2) >>= _) _ _ _
 refine wpAny_bind (draw_item ((h2.extBut hs0.extBut D.i2z).extBut hs₂.extBut D.i12.symm) ((l2.extBut hs0.extBut D.l2z).extBut hs₂.extBut D.l2i1) hy fun h₃ h2₃ hs₃=>wpAny_pure (wpAny_pure (wpAny_pure ?_)))
 show wpAny _ _ (newTuple [x,y] >>= _) _ _ ⟨h₃,g,d,tk,os⟩
 refine wpAny_bind (wpAny_newTuple (wpAny_pure ⟨_,rfl,?_⟩))
 have hsz:h₃.objs.size=hp.objs.size:=by rw [hs₃.1,hs₂.1,hs0.1]
 have hn:(h₃.push { cls:=.type "tuple",data:=.seq [x,y].toArray }).get? hp.objs.size=some { cls:=.type "tuple",data:=.seq #[x,y] }:=by rw [<-hsz];exact Heap.get?_push_size _ rfl
 show Q (.ref h₃.objs.size) _
 rw [hsz]
 have i1₃:=h1₂.extBut hs₃.extBut D.i12
 refine hQ _ f1' (Heap.get?_push_of_some _ (hs₃.extBut _ _ D.i2z.symm (hs₂.extBut _ _ D.i1z.symm hz0))) (i1₃.at fun o e=>Heap.get?_push_of_some _ e) (h2₃.at fun o e=>Heap.get?_push_of_some _ e) hn (by rw [Heap.size_push,hsz]) fun c o c1 c2 c3 e=>
  Heap.get?_push_of_some _ (hs₃.extBut _ _ c3 (hs₂.extBut _ _ c2 (hs0.extBut _ _ c1 e)))
theorem zip_first {z TI TO i1 i2 t1 t2:Addr} {k:Nat} {xs ys:Array Value} {x y a b:Value} {Q:Value->Shared->Prop} (D:ZipApart z TI TO i1 i2 t1 t2)
  (hz:IsZ s.heap z TI TO .none (.bool false)) (hTI:IsPair s.heap TI (.ref i1) (.ref i2)) (hTO:IsPair s.heap TO a b)
  (h1:s.heap.IsTupleIter i1 t1 k) (h2:s.heap.IsTupleIter i2 t2 k) (l1:s.heap.IsTuple t1 xs) (l2:s.heap.IsTuple t2 ys) (hx:xs[k]?=some x) (hy:ys[k]?=some y)
  (hQ:∀h' f1,IsZ h' z TI TO (rawInt s.heap.objs.size) f1->h'.IsTupleIter i1 t1 (k+1)->h'.IsTupleIter i2 t2 (k+1)->h'.get? s.heap.objs.size=some { cls:=.type "tuple",data:=.seq #[x,y] }->h'.objs.size=s.heap.objs.size+1 ->
   (∀c o,c≠z->c≠TO->c≠i1->c≠i2->s.heap.get? c=some o->h'.get? c=some o)->Q (.ref s.heap.objs.size) { s with heap:=h' }) :
  wpAny (model prog w) A (Builtin.«zip.__next__» ⟨[.ref z],[]⟩) (fun fin s'=>∃v,fin=.done (.ret v)/\Q v s') E s:=by
 obtain ⟨hp,g,d,tk,os⟩:=s
 show wpAny _ _ (field (.ref z) 2 >>= _) _ _ _
 refine wpAny_bind (wpAny_field hz rfl (x:=.bool false) rfl ?_)
 show wpAny _ _ (field (.ref z) 3 >>= _) _ _ _
 refine wpAny_bind (wpAny_field hz rfl (x:=.ref TI) rfl ?_)
 refine wpAny_bind (wpAny_seqItems hTI rfl ?_)
 show wpAny _ _ (Builtin.SmallTypes.ownedTupleIsFree (.ref z) >>= _) _ _ _
 refine wpAny_bind ?_
 unfold Builtin.SmallTypes.ownedTupleIsFree
 refine wpAny_bind (wpAny_field hz rfl (x:=.none) rfl (wpAny_pure ?_))
 rw [if_pos rfl]
 refine wpAny_bind (wpAny_rule ?_)
 refine wpAny_bind (wpAny_field hz rfl (x:=.ref TO) rfl ?_)
 refine wpAny_bind (wpAny_setField_rec hz (by simp) fun h₁ hz₁ hs₁=>?_)
 refine wpAny_bind ?_
 show wpAny _ _ (forIn ([(Value.ref i1,0),(Value.ref i2,1)]:List (Value×Nat)) _ _) _ _ _
 simp only [List.forIn_cons,List.forIn_nil]
 refine wpAny_bind (wpAny_bind (wpAny_onRaise ?_))
 show wpAny _ _ (Builtin.SmallTypes.nextOf (.ref i1) >>= _) _ _ _
 refine wpAny_bind (draw_item (h1.extBut hs₁.extBut D.i1z) (l1.extBut hs₁.extBut D.l1z) hx fun h₂ h1₂ hs₂=>wpAny_pure ?_)
 have hTO₂:IsPair h₂ TO a b:=hs₂.extBut _ _ D.TOi1 (hs₁.extBut _ _ D.TOz hTO)
 refine wpAny_bind (wpAny_seqItems hTO₂ rfl ?_)
 refine wpAny_bind (wpAny_updateSeq_pair hTO₂ fun h₃ hTO₃ hs₃=>?_)
 replace hTO₃:IsPair h₃ TO x b:=hTO₃
 refine wpAny_bind (wpAny_letGo (wpAny_pure ?_))
 refine wpAny_bind (wpAny_bind (wpAny_onRaise ?_))
 show wpAny _ _ (Builtin.SmallTypes.nextOf (.ref i2) >>= _) _ _ _
 refine wpAny_bind (draw_item (((h2.extBut hs₁.extBut D.i2z).extBut hs₂.extBut D.i12.symm).extBut hs₃.extBut D.TOi2.symm) (((l2.extBut hs₁.extBut D.l2z).extBut hs₂.extBut D.l2i1).extBut hs₃.extBut D.l2TO) hy fun h₄ h2₄ hs₄=>wpAny_pure ?_)
 have hTO₄:IsPair h₄ TO x b:=hs₄.extBut _ _ D.TOi2 hTO₃
 refine wpAny_bind (wpAny_seqItems hTO₄ rfl ?_)
 refine wpAny_bind (wpAny_updateSeq_pair hTO₄ fun h₅ hTO₅ hs₅=>?_)
 replace hTO₅:IsPair h₅ TO x y:=hTO₅
 refine wpAny_bind (wpAny_letGo (wpAny_pure (wpAny_pure ?_)))
 refine wpAny_bind (wpAny_seqItems hTO₅ rfl ?_)
 show wpAny _ _ (newTuple [x,y] >>= _) _ _ ⟨h₅,g,d,tk,os⟩
 refine wpAny_bind (wpAny_newTuple ?_)
 have hsz:h₅.objs.size=hp.objs.size:=by rw [hs₅.1,hs₄.1,hs₃.1,hs₂.1,hs₁.1]
 have k5:∀c o,c≠TO->c≠i1->c≠i2->h₁.get? c=some o->h₅.get? c=some o:=fun c o c2 c3 c4 e=>hs₅.extBut _ _ c2 (hs₄.extBut _ _ c4 (hs₃.extBut _ _ c2 (hs₂.extBut _ _ c3 e)))
 have hz₆:=Heap.get?_push_of_some { cls:=.type "tuple",data:=.seq [x,y].toArray } (k5 z _ D.TOz.symm D.i1z.symm D.i2z.symm hz₁)
 show wpAny _ _ (Builtin.SmallTypes.ownedTupleHandOut (.ref z) (.ref h₅.objs.size) >>= _) _ _ _
 refine wpAny_bind ?_
 unfold Builtin.SmallTypes.ownedTupleHandOut
 refine wpAny_bind (wpAny_setField_rec hz₆ (by simp) fun h₇ hz₇ hs₇=>?_)
 refine wpAny_setField_rec hz₇ (by simp) fun h₈ hz₈ hs₈=>wpAny_pure ⟨_,rfl,?_⟩
 have hlt:z < h₅.objs.size:=Heap.lt_size (k5 z _ D.TOz.symm D.i1z.symm D.i2z.symm hz₁)
 have up:∀c o,c≠z->(h₅.push { cls:=.type "tuple",data:=.seq [x,y].toArray }).get? c=some o->h₈.get? c=some o:=fun c o c1 e=>hs₈.extBut _ _ c1 (hs₇.extBut _ _ c1 e)
 have hn:h₈.get? h₅.objs.size=some { cls:=.type "tuple",data:=.seq #[x,y] }:=up _ _ (Nat.ne_of_gt hlt) (Heap.get?_push_size _ rfl)
 have i1₅:=((h1₂.extBut hs₃.extBut D.TOi1.symm).extBut hs₄.extBut D.i12).extBut hs₅.extBut D.TOi1.symm
 have i2₅:=h2₄.extBut hs₅.extBut D.TOi2.symm
 show Q (.ref h₅.objs.size) _
 have hz8:IsZ h₈ z TI TO (rawInt h₅.objs.size) (.bool false):=hz₈
 have hs8:h₈.objs.size=hp.objs.size+1:=by rw [hs₈.1,hs₇.1,Heap.size_push,hsz]
 rw [hsz] at hn hz8 ⊢
 exact hQ h₈ _ hz8 (i1₅.at fun o e=>up _ o D.i1z (Heap.get?_push_of_some _ e)) (i2₅.at fun o e=>up _ o D.i2z (Heap.get?_push_of_some _ e)) hn hs8 fun c o c1 c2 c3 c4 e=>up c o c1 (Heap.get?_push_of_some _ (k5 c o c2 c3 c4 (hs₁.extBut _ _ c1 e)))
theorem zip_stop {z TI TO i1 i2 t1 t2 T:Addr} {k:Nat} {xs:Array Value} {f1:Value} {oT:Obj} {Q:Fin->Shared->Prop} {hand:List Addr} (hh:A.handled=hand.head?.map Value.ref) (hch:Chain s.heap hand) (hzh:z∉hand) (D:ZipApart z TI TO i1 i2 t1 t2)
  (hz:IsZ s.heap z TI TO (rawInt T) f1) (hT:s.heap.get? T=some oT) (hTI:IsPair s.heap TI (.ref i1) (.ref i2)) (h1:s.heap.IsTupleIter i1 t1 k) (l1:s.heap.IsTuple t1 xs) (hx:xs[k]?=none)
  (hE:∀h' e,(∀c o,c≠z->c≠i1->s.heap.get? c=some o->h'.get? c=some o)->s.heap.objs.size<=h'.objs.size->(∃o,h'.get? e=some o/\o.cls=.type "StopIteration")->E (.ref e) { s with heap:=h' }) :
  wpAny (model prog w) A (Builtin.«zip.__next__» ⟨[.ref z],[]⟩) Q E s:=by
 obtain ⟨hp,g,d,tk,os⟩:=s
 show wpAny _ _ (field (.ref z) 2 >>= _) _ _ _
 refine wpAny_bind (wpAny_field hz rfl (x:=.bool false) rfl ?_)
 show wpAny _ _ (field (.ref z) 3 >>= _) _ _ _
 refine wpAny_bind (wpAny_field hz rfl (x:=.ref TI) rfl ?_)
 refine wpAny_bind (wpAny_seqItems hTI rfl ?_)
 show wpAny _ _ (Builtin.SmallTypes.ownedTupleIsFree (.ref z) >>= _) _ _ _
 refine wpAny_bind ?_
 unfold Builtin.SmallTypes.ownedTupleIsFree
 refine wpAny_bind (wpAny_field hz rfl (x:=rawInt T) rfl ?_)
 show wpAny _ _ (loadIfAlive ((T:Int)).toNat >>= _) _ _ _
 refine wpAny_bind (loadIfAlive_ ?_)
 rw [Int.toNat_natCast,hT,if_neg (by simp)]
 refine wpAny_bind (wpAny_field hz rfl (x:=f1) rfl ?_)
 refine wpAny_mono (Q:=fun a s'=>a=false/\∃h0,s'=⟨h0,g,d,tk,os⟩/\Heap.SameBut z hp h0) ?_ (fun a s' hp=>?_) fun _ _ q=>q
 ·refine wpAny_ite_split (fun _=>wpAny_bind (wpAny_setField_rec hz (by simp) fun h0 hz0 hs0=>wpAny_pure ⟨rfl,h0,rfl,hs0⟩)) fun _=>wpAny_pure ⟨rfl,hp,rfl,.refl _ _⟩
 obtain ⟨rfl,h0,rfl,hs0⟩:=hp
 show wpAny _ _ (forIn (#[Value.ref i1,.ref i2]:Array Value) _ _ >>= _) _ _ _
 rw [<-Array.forIn_toList]
 simp only [List.forIn_cons,List.forIn_nil]
 refine wpAny_bind (wpAny_bind (wpAny_bind (wpAny_holding ?_)))
 show wpAny _ _ (Builtin.SmallTypes.nextOf (.ref i1) >>= _) _ _ _
 have hch0:Chain h0 hand:=hch.at_ fun b hb o e=>hs0.extBut b o (fun q=>hzh (q ▸ hb)) e
 exact wpAny_bind (draw_end hh hch0 (h1.extBut hs0.extBut D.i1z) (l1.extBut hs0.extBut D.l1z) hx fun h' e he hs hst=>hE h' e (fun c o c1 c2 x=>he c o c2 (hs0.extBut c o c1 x)) (by rw [<-hs0.1];exact hs) hst)
noncomputable def wrs (S z TO i1 i2:Addr):List Addr:=[S,z,TO,i1,i2]
structure ZSt (h:Heap) (S z TI TO i1 i2 t1 t2:Addr) (xs ys:Array Value) (k:Nat):Prop where
 zs:(k=0/\IsZ h z TI TO .none (.bool false)/\∃a b,IsPair h TO a b)\/∃(T:Addr) (oT:Obj) (f1:Value),IsZ h z TI TO (rawInt T) f1/\h.get? T=some oT/\T∉wrs S z TO i1 i2
 ti:IsPair h TI (.ref i1) (.ref i2)
 h1:h.IsTupleIter i1 t1 k
 h2:h.IsTupleIter i2 t2 k
 l1:h.IsTuple t1 xs
 l2:h.IsTuple t2 ys
theorem wrs_ne {S z TO i1 i2 c:Addr} (h:c∉wrs S z TO i1 i2):c≠S/\c≠z/\c≠TO/\c≠i1/\c≠i2:=by
 simpa [wrs] using h
theorem ZSt.typeIs {S z TI TO i1 i2 t1 t2:Addr} {xs ys:Array Value} {k:Nat} (st:ZSt s.heap S z TI TO i1 i2 t1 t2 xs ys k):s.TypeIs (.ref z) "zip" := by
 rcases st.zs with ⟨_,hz,_⟩ | ⟨_,_,_,hz,_⟩ <;> exact ⟨_,hz,rfl⟩
theorem ZSt.keep {h h':Heap} {S z TI TO i1 i2 t1 t2:Addr} {xs ys:Array Value} {k:Nat} (st:ZSt h S z TI TO i1 i2 t1 t2 xs ys k) (hn:S≠z/\S≠TI/\S≠TO/\S≠i1/\S≠i2/\S≠t1/\S≠t2) (hk:∀c o,c≠S->h.get? c=some o->h'.get? c=some o):ZSt h' S z TI TO i1 i2 t1 t2 xs ys k where
 zs:=st.zs.imp (fun ⟨e,hz,a,b,ho⟩=>⟨e,hk _ _ hn.1.symm hz,a,b,hk _ _ hn.2.2.1.symm ho⟩) fun ⟨T,oT,f1,hz,hT,hw⟩=>⟨T,oT,f1,hk _ _ hn.1.symm hz,hk _ _ (wrs_ne hw).1 hT,hw⟩
 ti:=hk _ _ hn.2.1.symm st.ti
 h1:=st.h1.at fun o e=>hk _ o hn.2.2.2.1.symm e
 h2:=st.h2.at fun o e=>hk _ o hn.2.2.2.2.1.symm e
 l1:=st.l1.at fun o e=>hk _ o hn.2.2.2.2.2.1.symm e
 l2:=st.l2.at fun o e=>hk _ o hn.2.2.2.2.2.2.symm e
theorem zip_pyNext {S z TI TO i1 i2 t1 t2:Addr} {xs ys:Array Value} {k:Nat} {x y:Value} {Q:Option Value->Shared->Prop} (D:ZipApart z TI TO i1 i2 t1 t2) (st:ZSt s.heap S z TI TO i1 i2 t1 t2 xs ys k) (hx:xs[k]?=some x) (hy:ys[k]?=some y)
  (hw:s.heap.objs.size∉wrs S z TO i1 i2)
  (hQ:∀h',ZSt h' S z TI TO i1 i2 t1 t2 xs ys (k+1)->h'.get? s.heap.objs.size=some { cls:=.type "tuple",data:=.seq #[x,y] }->h'.objs.size=s.heap.objs.size+1->(∀c o,c≠z->c≠TO->c≠i1->c≠i2->s.heap.get? c=some o->h'.get? c=some o)->Q (some (.ref s.heap.objs.size)) { s with heap:=h' }) :
  wpAny (model prog w) A (pyNext (.ref z)) Q E s:=by
 have fin:∀h' (T:Addr) (oT:Obj) (f1:Value),IsZ h' z TI TO (rawInt T) f1->h'.get? T=some oT->T∉wrs S z TO i1 i2->h'.IsTupleIter i1 t1 (k+1)->h'.IsTupleIter i2 t2 (k+1)->(∀c o,c≠z->c≠TO->c≠i1->c≠i2->s.heap.get? c=some o->h'.get? c=some o)->ZSt h' S z TI TO i1 i2 t1 t2 xs ys (k+1):=
  fun h' T oT f1 a1 a2 a3 a4 a5 a6=>⟨Or.inr ⟨T,oT,f1,a1,a2,a3⟩,a6 _ _ D.TIz D.TITO D.TIi1 D.TIi2 st.ti,a4,a5,st.l1.at fun o e=>a6 _ o D.l1z D.l1TO D.l1i1 D.l1i2 e,st.l2.at fun o e=>a6 _ o D.l2z D.l2TO D.l2i1 D.l2i2 e⟩
 unfold pyNext
 refine wpAny_bind (wpAny_attempt (wpAny_callSpecial?_slot (name:=Str.ofString "__next__") st.typeIs F.slot_zip_next (wpAny_call_entry F.slot_zip_next st.typeIs F.entry_zip_next ?_ (F.args_zip_next_1 _))))
 rcases st.zs with ⟨_,hz,a,b,ho⟩ | ⟨T,oT,f1,hz,hT,hTw⟩
 ·exact zip_first D hz st.ti ho st.h1 st.h2 st.l1 st.l2 hx hy fun h' f1 a1 a2 a3 a4 a5 a6=>wpAny_pure (hQ h' (fin h' _ _ f1 a1 a4 hw a2 a3 a6) a4 a5 a6)
 ·exact zip_more D hz hT st.ti st.h1 st.h2 st.l1 st.l2 hx hy fun h' f1 a1 a2 a3 a4 a5 a6=>by
   have a6':∀c o,c≠z->c≠TO->c≠i1->c≠i2->s.heap.get? c=some o->h'.get? c=some o:=fun c o c1 _ c3 c4 e=>a6 c o c1 c3 c4 e
   exact wpAny_pure (hQ h' (fin h' T oT f1 a1 (a6 T oT (wrs_ne hTw).2.1 (wrs_ne hTw).2.2.2.1 (wrs_ne hTw).2.2.2.2 hT) hTw a2 a3 a6') a4 a5 a6')
noncomputable def Prs (h:Heap) (S z TO i1 i2:Addr) (xs ys acc:Array Value) (k:Nat):Prop:=
 acc.size=k/\∀j,j < k->∃a x y,acc[j]?=some (.ref a)/\xs[j]?=some x/\ys[j]?=some y/\h.get? a=some { cls:=.type "tuple",data:=.seq #[x,y] }/\a∉wrs S z TO i1 i2
theorem ext_loop {S z TI TO i1 i2 t1 t2:Addr} {xs ys:Array Value} {hand:List Addr} {R:Result->Shared->Prop} {res:Value} (hh:A.handled=hand.head?.map Value.ref) (hd:∀b∈hand,b∉wrs S z TO i1 i2) (D:ZipApart z TI TO i1 i2 t1 t2) (hn:S≠z/\S≠TI/\S≠TO/\S≠i1/\S≠i2/\S≠t1/\S≠t2)
  (hl:ys.size=xs.size) (h0:0 < xs.size) (h100:xs.size<=1000):∀(m k:Nat) (s:Shared) (acc:Array Value) (c:Nat),xs.size - k=m->k<=xs.size->(∀b∈wrs S z TO i1 i2,b < s.heap.objs.size)->Chain s.heap hand->ZSt s.heap S z TI TO i1 i2 t1 t2 xs ys k ->
  s.heap.get? S=some { cls:=.type "list",dict:=none,data:=.seq acc c,slots:=#[] }->Prs s.heap S z TO i1 i2 xs ys acc k ->
  (∀h' acc' c',(∀b o,b∉wrs S z TO i1 i2->s.heap.get? b=some o->h'.get? b=some o)->s.heap.objs.size<=h'.objs.size->h'.get? S=some { cls:=.type "list",dict:=none,data:=.seq acc' c',slots:=#[] }->Prs h' S z TO i1 i2 xs ys acc' xs.size->R (.ok (.ret res)) { s with heap:=h' }) ->
  codeAny (model prog w) A (.builtin "list.extend.loop" ⟨[.ref S,.ref z,res],[]⟩) R s:=by
 intro m
 induction m with
 | zero=>
  intro k s acc c hk hi hw hch st hS hacc hR
  have:k=xs.size:=by exact Nat.le_antisymm (jl1 (jc2 _ _) j0 j1 j0 j1 rfl hi) (jl2 (jc3 _ _ (_ - _)) j2 (jK 0) j0 (jA j2 j1) j0 j1 rfl (Nat.le_of_eq hk) (Nat.le_add_of_sub_le (Nat.le_refl (_ - _))))
  subst this
  refine codeAny_builtin F.entry_extend_loop ?_
  rw [Around.under_plainId F.plain_extend_loop _]
  show wpAny _ A.in1 (pyNext (.ref z) >>= _) _ _ s
  refine wpAny_bind ?_
  unfold pyNext
  refine wpAny_bind (wpAny_attempt (wpAny_callSpecial?_slot (name:=Str.ofString "__next__") st.typeIs F.slot_zip_next (wpAny_call_entry F.slot_zip_next st.typeIs F.entry_zip_next ?_ (F.args_zip_next_1 _))))
  rcases st.zs with ⟨e,_⟩ | ⟨T,oT,f1,hz,hT,hTw⟩
  ·omega
  ·refine zip_stop (hand:=hand) hh hch (fun q=>(wrs_ne (hd z q)).2.1 rfl) D hz hT st.ti st.h1 st.l1 (by simp) fun h' e k1 k2 k3=>?_
   refine pyNext_stop k3 (wpAny_pure (hR h' acc c (fun b o hb e'=>k1 b o (wrs_ne hb).2.1 (wrs_ne hb).2.2.2.1 e') k2 (k1 S _ hn.1 hn.2.2.2.1 hS) ⟨hacc.1,fun j hj=>?_⟩))
   obtain ⟨a,x,y,p1,p2,p3,p4,p5⟩:=hacc.2 j hj
   exact ⟨a,x,y,p1,p2,p3,k1 a _ (wrs_ne p5).2.1 (wrs_ne p5).2.2.2.1 p4,p5⟩
 | succ m ih=>
  intro k s acc c hk hi hw hch st hS hacc hR
  have hlt:k < xs.size:=by omega
  refine codeAny_builtin F.entry_extend_loop ?_
  rw [Around.under_plainId F.plain_extend_loop _]
  show wpAny _ A.in1 (pyNext (.ref z) >>= _) _ _ s
  have hN:s.heap.objs.size∉wrs S z TO i1 i2:=fun q=>Nat.lt_irrefl _ (hw _ q)
  refine wpAny_bind (zip_pyNext D st (Array.getElem?_eq_getElem hlt) (Array.getElem?_eq_getElem (by exact jk26 hlt hl:k < ys.size)) hN fun h' st' hp hsz hk'=>?_)
  have hS':=hk' S _ hn.1 hn.2.2.1 hn.2.2.2.1 hn.2.2.2.2.1 hS
  show wpAny _ A.in1 (updateSeq S (·.push (.ref s.heap.objs.size)) >>= _) _ _ _
  refine wpAny_bind ?_
  have up:∀b o,b≠S->h'.get? b=some o->(h'.update S (Obj.mapSeq (·.push (.ref s.heap.objs.size)))).get? b=some o:=fun b o hb e=>(Heap.get?_update_other _ _ (Ne.symm hb)).trans e
  have kp:∀b o,b∉wrs S z TO i1 i2->s.heap.get? b=some o->(h'.update S (Obj.mapSeq (·.push (.ref s.heap.objs.size)))).get? b=some o:=fun b o hb e=>
   up b o (wrs_ne hb).1 (hk' b o (wrs_ne hb).2.1 (wrs_ne hb).2.2.1 (wrs_ne hb).2.2.2.1 (wrs_ne hb).2.2.2.2 e)
  have hsz2:(h'.update S (Obj.mapSeq (·.push (.ref s.heap.objs.size)))).objs.size=s.heap.objs.size+1:=by rw [(Heap.SameBut.update ..).1,hsz]
  refine wpAny_updateSeq hS' rfl (wpAny_pure ⟨plainId_quiet F.plain_extend_loop _,ih (k+1) _ (acc.push (.ref s.heap.objs.size)) _ (by omega) hlt (fun b hb=>?_) (Chain.at_ (fun b hb o e=>kp b o (hd b hb) e) hch) (st'.keep hn up) (Heap.get?_update_self _ hS' rfl) ⟨by rw [Array.size_push,hacc.1],fun j hj=>?_⟩ fun h'' acc' c' q1 q2 q3 q4=>?_⟩)
   (by rw [hacc.1];have:1000<=sizeLine:=(by decide);exact jl3 (jc3 _ _ _) (jK 1000) j1 (jA j0 (jK 1)) j2 j2 (jK 1000) j0 j1 rfl this hlt h100) (by show (acc.push _).size<=sizeLine+1;rw [Array.size_push,hacc.1];have:1000<=sizeLine:=(by decide);exact jl3 (jc3 _ _ _) (jK 1000) j1 (jA j0 (jK 1)) j2 j2 (jK 1000) (jA j0 (jK 1)) (jA j1 (jK 1)) rfl this hlt h100)
  ·show b < (h'.update S _).objs.size
   rw [hsz2];exact Nat.lt_succ_of_lt (hw b hb)
  ·rw [Array.getElem?_push,hacc.1]
   by_cases hjk:j=k
   ·subst hjk
    rw [if_pos rfl]
    exact ⟨_,_,_,rfl,Array.getElem?_eq_getElem hlt,Array.getElem?_eq_getElem (by exact jk26 hlt hl:j < ys.size),up _ _ (wrs_ne hN).1 hp,hN⟩
   ·rw [if_neg hjk]
    obtain ⟨a,x,y,p1,p2,p3,p4,p5⟩:=hacc.2 j (by omega)
    exact ⟨a,x,y,p1,p2,p3,kp a _ p5 p4,p5⟩
  ·exact hR h'' acc' c' (fun b o hb e=>q1 b o hb (kp b o hb e)) (Nat.le_trans (by exact jk3 hsz2) (show (h'.update S _).objs.size<=h''.objs.size from q2)) q3 q4
theorem zip_no_len:typeLookup (.type "zip") "__len__" = pure none:=by rw [typeLookup_type,builtinLookup_eq_fast];kernel_rfl
theorem zip_no_hint:typeLookup (.type "zip") "__length_hint__" = pure none:=by rw [typeLookup_type,builtinLookup_eq_fast];kernel_rfl
theorem zip_loop {z TI TO i1 i2 t1 t2:Addr} {xs ys:Array Value} {R:Result->Shared->Prop} {hp h4:Heap} {g:Array GenState} {d:Drawn} {tk c:Nat} {os:OsState} {hand:List Addr} (he:A.handled=hand.head?.map Value.ref) (hch:Chain hp hand) (hdd:∀b∈hand,b∉wrs hp.objs.size z TO i1 i2)
  (D:ZipApart z TI TO i1 i2 t1 t2) (st:ZSt hp hp.objs.size z TI TO i1 i2 t1 t2 xs ys 0) (hn:hp.objs.size≠z/\hp.objs.size≠TI/\hp.objs.size≠TO/\hp.objs.size≠i1/\hp.objs.size≠i2/\hp.objs.size≠t1/\hp.objs.size≠t2)
  (hw:∀b∈wrs hp.objs.size z TO i1 i2,b < h4.objs.size) (k:∀b o,b≠hp.objs.size->hp.get? b=some o->h4.get? b=some o) (hS:h4.get? hp.objs.size=some { cls:=.type "list",dict:=none,data:=.seq #[] c,slots:=#[] })
  (hl:ys.size=xs.size) (h0:0 < xs.size) (h100:xs.size<=1000)
  (hR:∀h' acc' c',(∀b o,b≠z->b≠TO->b≠i1->b≠i2->hp.get? b=some o->h'.get? b=some o)->h'.get? hp.objs.size=some { cls:=.type "list",dict:=none,data:=.seq acc' c',slots:=#[] }->Prs h' hp.objs.size z TO i1 i2 xs ys acc' xs.size->R (.ok (.ret .none)) ⟨h',g,d,tk,os⟩) :
  codeAny (model prog w) A (.builtin "list.extend.loop" ⟨[.ref hp.objs.size,.ref z,.none],[]⟩) R ⟨h4,g,d,tk,os⟩:=by
 refine ext_loop (S:=hp.objs.size) (xs:=xs) (hand:=hand) he hdd D hn hl h0 h100 (xs.size - 0) 0 ⟨h4,g,d,tk,os⟩ #[] c rfl (Nat.zero_le _) hw (Chain.at_ (fun b hb o e=>k b o (wrs_ne (hdd b hb)).1 e) hch) (st.keep hn k) hS ⟨rfl,fun j hj=>absurd hj (Nat.not_lt_zero _)⟩ fun h' acc' c' q1 q2 q3 q4=>?_
 refine hR h' acc' c' (fun b o b1 b2 b3 b4 e=>?_) q3 q4
 have hb:b≠hp.objs.size:=Nat.ne_of_lt (Heap.lt_size e)
 exact q1 b o (by simp [wrs,hb,b1,b2,b3,b4]) (k b o hb e)
theorem list_of_zip {z TI TO i1 i2 t1 t2:Addr} {xs ys:Array Value} {Q:Value->Shared->Prop} (hh:HandOk A.handled s.heap) (D:ZipApart z TI TO i1 i2 t1 t2) (st:ZSt s.heap s.heap.objs.size z TI TO i1 i2 t1 t2 xs ys 0)
  (hd:∀hand,Chain s.heap hand->∀b∈hand,b∉wrs s.heap.objs.size z TO i1 i2) (hlt:z < s.heap.objs.size/\TI < s.heap.objs.size/\TO < s.heap.objs.size/\i1 < s.heap.objs.size/\i2 < s.heap.objs.size/\t1 < s.heap.objs.size/\t2 < s.heap.objs.size)
  (hl:ys.size=xs.size) (h0:0 < xs.size) (h100:xs.size<=1000)
  (hQ:∀h' acc' c',(∀b o,b≠z->b≠TO->b≠i1->b≠i2->s.heap.get? b=some o->h'.get? b=some o)->h'.get? s.heap.objs.size=some { cls:=.type "list",dict:=none,data:=.seq acc' c',slots:=#[] }->Prs h' s.heap.objs.size z TO i1 i2 xs ys acc' xs.size->Q (.ref s.heap.objs.size) { s with heap:=h' }) :
  wpAny (model prog w) A (call (.type "list") [.ref z]) Q E s:=by
 obtain ⟨hp,g,d,tk,os⟩:=s
 obtain ⟨hand,he,hch⟩:=hh
 have hdd:=hd hand hch
 have hn:hp.objs.size≠z/\hp.objs.size≠TI/\hp.objs.size≠TO/\hp.objs.size≠i1/\hp.objs.size≠i2/\hp.objs.size≠t1/\hp.objs.size≠t2:=
  ⟨Nat.ne_of_gt hlt.1,Nat.ne_of_gt hlt.2.1,Nat.ne_of_gt hlt.2.2.1,Nat.ne_of_gt hlt.2.2.2.1,Nat.ne_of_gt hlt.2.2.2.2.1,Nat.ne_of_gt hlt.2.2.2.2.2.1,Nat.ne_of_gt hlt.2.2.2.2.2.2⟩
 refine callType_codes (Q₁:=fun obj s₁=>obj=.ref hp.objs.size/\s₁=⟨hp.push { cls:=.type "list",data:=.seq #[] },g,d,tk,os⟩) F.called_list (F.typeCall_list_1 _) F.entry_list_init (code_list_new _ ⟨rfl,rfl⟩) fun obj s₁ h₁=>?_
 obtain ⟨rfl,rfl⟩:=h₁
 have hS:(hp.push { cls:=.type "list",data:=.seq #[] }).get? hp.objs.size=some { cls:=.type "list",data:=.seq #[] }:=Heap.get?_push_size _ rfl
 refine ⟨⟨_,hS,rfl⟩,F.args_list_init_2 _ _,?_⟩
 show wpAny _ _ (do let old <-Builtin.List.listItems (.ref hp.objs.size);Builtin.List.listUpdate (.ref hp.objs.size) (fun _=>#[]);letGo old.toList.reverse;Builtin.List.listExtendWith (.ref hp.objs.size) (.ref z) .none) _ _ _
 refine wpAny_bind ?_
 unfold Builtin.List.listItems
 refine wpAny_bind (wpAny_seqItems hS rfl (wpAny_pure ?_))
 show wpAny _ _ (updateSeq hp.objs.size (fun _=>#[]) >>= fun _=>letGo (#[]:Array Value).toList.reverse >>= fun _=>Builtin.List.listExtendWith (.ref hp.objs.size) (.ref z) .none) _ _ _
 refine wpAny_bind (wpAny_updateSeq hS rfl ?_)
 have hS₂:=Heap.get?_update_self (Obj.mapSeq (fun _=>(#[]:Array Value))) hS rfl
 refine wpAny_bind (wpAny_letGo ?_)
 have k1:∀b o,b≠hp.objs.size->hp.get? b=some o->((hp.push { cls:=.type "list",data:=.seq #[] }).update hp.objs.size (Obj.mapSeq (fun _=>(#[]:Array Value)))).get? b=some o:=fun b o hb e=>(Heap.get?_update_other _ _ (Ne.symm hb)).trans (Heap.get?_push_of_some _ e)
 have st₂:=st.keep hn k1
 unfold Builtin.List.listExtendWith
 refine wpAny_bind (wpAny_typeOf (T:= "zip") (ZSt.typeIs (s:=⟨_,g,d,tk,os⟩) st₂) ?_)
 have e1:Builtin.List.listSameRef (.ref hp.objs.size) (.ref z)=false:=by simp [Builtin.List.listSameRef,hn.1]
 rw [if_neg (by rw [e1];decide)]
 have hzz:∃f0 f1,IsZ ((hp.push { cls:=.type "list",data:=.seq #[] }).update hp.objs.size (Obj.mapSeq (fun _=>(#[]:Array Value)))) z TI TO f0 f1:=by
  rcases st₂.zs with ⟨_,hz,_⟩ | ⟨_,_,_,hz,_⟩ <;> exact ⟨_,_,hz⟩
 have hTT:Shared.TypeIs ⟨(hp.push { cls:=.type "list",data:=.seq #[] }).update hp.objs.size (Obj.mapSeq (fun _=>(#[]:Array Value))),g,d,tk,os⟩ (.ref z) "zip" := ZSt.typeIs (s:=⟨_,g,d,tk,os⟩) st₂
 refine wpAny_bind (wpAny_pyIter_slot hTT F.slot_zip_iter (wpAny_call_entry F.slot_zip_iter hTT F.entry_zip_iter ?_ (F.args_zip_iter_1 _)))
 show wpAny _ _ (ret (.ref z)) _ _ _
 refine wpAny_pure ⟨_,rfl, "zip",_,hTT,F.slot_zip_next.lookup,?_⟩
 refine wpAny_bind (wpAny_holding ?_)
 unfold Builtin.List.listLengthHint
 refine wpAny_bind (wpAny_specialOf hTT zip_no_len ?_)
 show wpAny _ _ (specialOf (Value.ref z) (Str.ofString "__length_hint__") >>= _) _ _ _
 refine wpAny_bind (wpAny_specialOf hTT zip_no_hint (wpAny_pure ?_))
 show wpAny _ _ (rule "list.extend.makes-room" >>= fun _=>Builtin.List.listTouch (.ref hp.objs.size) >>= fun _=>again (.builtin "list.extend.loop" ⟨[.ref hp.objs.size,.ref z,.none],[]⟩)) _ _ _
 refine wpAny_bind (wpAny_rule ?_)
 refine wpAny_bind ?_
 show wpAny _ _ (updateSeq hp.objs.size (·.push .none) >>= fun _=>updateSeq hp.objs.size (·.pop)) _ _ _
 refine wpAny_bind (wpAny_updateSeq hS₂ rfl ?_)
 have hS₃:=Heap.get?_update_self (Obj.mapSeq (·.push Value.none)) hS₂ rfl
 refine wpAny_updateSeq (hz:=by seq_fits) hS₃ rfl ?_
 have hS₄:=Heap.get?_update_self (Obj.mapSeq (·.pop)) hS₃ rfl
 have k2:∀b o,b≠hp.objs.size->((hp.push { cls:=.type "list",data:=.seq #[] }).update hp.objs.size (Obj.mapSeq (fun _=>(#[]:Array Value)))).get? b=some o ->
   ((((hp.push { cls:=.type "list",data:=.seq #[] }).update hp.objs.size (Obj.mapSeq (fun _=>(#[]:Array Value)))).update hp.objs.size (Obj.mapSeq (·.push Value.none))).update hp.objs.size (Obj.mapSeq (·.pop))).get? b=some o:=
  fun b o hb e=>(Heap.get?_update_other _ _ (Ne.symm hb)).trans ((Heap.get?_update_other _ _ (Ne.symm hb)).trans e)
 have hsz:((((hp.push { cls:=.type "list",data:=.seq #[] }).update hp.objs.size (Obj.mapSeq (fun _=>(#[]:Array Value)))).update hp.objs.size (Obj.mapSeq (·.push Value.none))).update hp.objs.size (Obj.mapSeq (·.pop))).objs.size=hp.objs.size+1:=by
  exact (Heap.SameBut.update ..).1.trans ((Heap.SameBut.update ..).1.trans ((Heap.SameBut.update ..).1.trans (Heap.size_push ..)))
 refine wpAny_pure ⟨plainId_quiet F.plain_extend_loop _,zip_loop (hand:=hand) he hch hdd D st hn (fun b hb=>?_) (fun b o hb e=>k2 b o hb (k1 b o hb e)) hS₄ hl h0 h100 fun h' acc' c' q1 q3 q4=>⟨rfl,hQ h' acc' c' q1 q3 q4⟩⟩
 rw [hsz]
 simp only [wrs,List.mem_cons,List.not_mem_nil,or_false] at hb
 rcases hb with rfl | rfl | rfl | rfl | rfl
 ·exact Nat.lt_succ_self _
 ·exact Nat.lt_succ_of_lt hlt.1
 ·exact Nat.lt_succ_of_lt hlt.2.2.1
 ·exact Nat.lt_succ_of_lt hlt.2.2.2.1
 ·exact Nat.lt_succ_of_lt hlt.2.2.2.2.1
end
noncomputable abbrev zH1 (h:Heap) (a:Addr):Heap:=h.push { cls:=.type "tuple_iterator",data:=.fields #[.ref a,.int 0 0] }
noncomputable abbrev zH3 (h:Heap) (a b:Addr):Heap:=(zH1 (zH1 h a) b).push { cls:=.type "tuple",data:=.seq #[.ref h.objs.size,.ref (zH1 h a).objs.size] }
noncomputable abbrev zH4 (h:Heap) (a b:Addr):Heap:=(zH3 h a b).push { cls:=.type "tuple",data:=.seq #[.none,.none] }
noncomputable abbrev zH5 (h:Heap) (a b:Addr):Heap:=(zH4 h a b).push { cls:=.type "zip",data:=.fields #[.none,.bool false,.bool false,.ref (zH1 (zH1 h a) b).objs.size,.ref (zH3 h a b).objs.size] }
theorem meets_zip (a b:Addr) (xs ys:Array Value):Meets (Builtin.«zip.__new__» ⟨[.type "zip",.ref a,.ref b],[]⟩) (fun _ R s=>s.heap.IsTuple a xs/\s.heap.IsTuple b ys/\R (.ok (.ret (.ref (zH4 s.heap a b).objs.size))) { s with heap:=zH5 s.heap a b }):=
 .of_wp fun prog w A R s h=>by
  obtain ⟨hp,g,d,tk,os⟩:=s;obtain ⟨hl1,hl2,h⟩:=h
  have hsub:=sub_zip
  have hL1:Heap.IsTuple (Shared.heap ⟨hp,g,d,tk,os⟩) a xs:=hl1
  have hL2:Heap.IsTuple (Shared.heap ⟨zH1 hp a,g,d,tk,os⟩) b ys:=hl2.push _
  wp_walk using wpAny_pyIter_tuple hL1,wpAny_pyIter_tuple hL2
  exact ⟨_,rfl,h⟩
section
variable {prog:Program} {w:World} {B:Bs} {A:Around} {E:Value->Shared->Prop} {s:Shared} {H:Hp} {Q:D->Hp->Prop}
theorem pairs_rep {h:Heap}:∀{l m:List D} {us vs as:List Value},l.length=m.length->RepL B h l us->RepL B h m vs->as.length=l.length->(∀j,j < as.length->∃a x y,as[j]?=some (.ref a)/\us[j]?=some x/\vs[j]?=some y/\h.get? a=some { cls:=.type "tuple",data:=.seq #[x,y] }) ->
  RepL B h ((l.zip m).map fun p=>.tup [p.1,p.2]) as
 | [],[],_,_,as,_,_,_,hl,_=>by have:as=[]:=List.length_eq_zero_iff.mp hl;subst this;exact .nil
 | d::l,e::m,us,vs,as,hlm,r1,r2,hl,hp=>by
  simp only [RepL] at r1 r2
  obtain ⟨u,us,rfl,ru,r1⟩:=r1
  obtain ⟨v,vs,rfl,rv,r2⟩:=r2
  cases as with
  | nil=>cases hl
  | cons a as=>
   obtain ⟨b,x,y,p1,p2,p3,p4⟩:=hp 0 (Nat.zero_lt_succ _)
   cases p1;cases p2;cases p3
   refine .cons ?_ (pairs_rep (by simpa using hlm) r1 r2 (by simpa using hl) fun j hj=>hp (j+1) (Nat.succ_lt_succ hj))
   unfold Rep
   exact ⟨b,#[u,v],0,rfl,p4,by show 2<=SZ;decide,.cons ru (.cons rv .nil)⟩
 | [],_::_,_,_,_,hlm,_,_,_,_=>by cases hlm
 | _::_,[],_,_,_,hlm,_,_,_,_=>by cases hlm
theorem Chain.mem_cls {h:Heap}:∀{l:List Addr},Chain h l->∀b∈l,∃o C,h.get? b=some o/\o.cls=.ref C
 | [a],⟨o,C,_,e,c,_⟩,b,hb=>by rw [List.mem_singleton.mp hb];exact ⟨o,C,e,c⟩
 | a::a2::r,⟨⟨o,C,_,e,c,_⟩,y⟩,b,hb=>by
  rcases List.mem_cons.mp hb with rfl | hb
  ·exact ⟨o,C,e,c⟩
  ·exact Chain.mem_cls y b hb
theorem post_newlistFar {S:Addr} {vs:Array Value} {ds:List D} {h':Heap} {n:Nat} (C:ConcH B H s.heap) (hb:B.base.StaysIn s.heap) (hS:∀a o,s.heap.get? a=some o->a≠S) (hsz:s.heap.objs.size<=h'.objs.size) (k:∀a o,s.heap.get? a=some o->h'.get? a=some o) (hl:IsL h' S vs n)
  (hr:RepL B h' ds vs.toList) (hz:ds.length<=SZ) (hq:∀c,H c=none->Q (.ref c) (H.set c (.list ds))):CallPost B H s Q (.ref S) { s with heap:=h' }:=by
 have hHS:H S=none:=by
  cases e:H S with
  | none=>rfl
  | some ob=>
   exfalso
   have x:=(C S ob e).1
   cases ob with
   | list l=>obtain ⟨vs,n,e',_⟩:=x;exact hS S _ e' rfl
   | robj d t=>obtain ⟨o',C',e',_⟩:=(x:RoAt B H s.heap S d t);exact hS S _ e' rfl
   | aux _=>obtain ⟨o',es,n,e',_⟩:=x;exact hS S _ e' rfl
 refine ⟨.ref S,H.set S (.list ds),by simp only [Rep],?_,fun a o e=>k a o (hb a o e),⟨fun a o e hn _=>⟨⟨o,k a o e,.refl o⟩,by rw [Hp.set_other _ _ (hS a o e)];exact hn⟩,hsz,rfl,rfl⟩,hq _ hHS⟩
 intro a ob e
 by_cases q:a=S
 ·subst q
  rw [Hp.set_self] at e;cases e
  refine ⟨⟨vs,n,hl,by have:=hr.length;simp only [Array.length_toList] at this;exact jk7 this hz,hr⟩,?_⟩
  cases hbs:B.base.get? a with
  | none=>rfl
  | some o=>exact absurd rfl (hS a o (hb a o hbs))
 ·rw [Hp.set_other _ _ q] at e
  obtain ⟨x,y⟩:=C a ob e
  refine ⟨x.pres (.grow k) (fun o g=>k a o g) fun d t qq=>?_,y⟩
  subst qq
  obtain ⟨o,_,_,_,_,_,_,_,hd,⟨od,_,_,hod,_⟩⟩:=(x:RoAt B H s.heap a d t)
  exact ⟨by rw [Hp.set_other _ _ (hS d od hod)];exact hd,fun o g=>k d o g⟩
theorem zip_sound {l m:List D} {v u:Value} (rv:Rep B s.heap (.tup l) v) (ru:Rep B s.heap (.tup m) u) (C:ConcH B H s.heap) (hb:B.base.StaysIn s.heap) (hh:HandOk A.handled s.heap) (hl:m.length=l.length) (h0:0 < l.length) (h100:l.length<=100)
  (hq:∀c,H c=none->Q (.ref c) (H.set c (.list ((l.zip m).map fun p=>.tup [p.1,p.2])))) :
  wpAny (model prog w) A (call (.type "zip") [v,u]) (fun zv s1=>wpAny (model prog w) A (call (.type "list") [zv]) (CallPost B H s Q) E s1) E s:=by
 unfold Rep at rv ru
 obtain ⟨t1,xs,n1,rfl,g1,hz1,r1⟩:=rv
 obtain ⟨t2,ys,n2,rfl,g2,hz2,r2⟩:=ru
 have T1:s.heap.IsTuple t1 xs:=⟨_,g1,rfl,n1,rfl⟩
 have T2:s.heap.IsTuple t2 ys:=⟨_,g2,rfl,n2,rfl⟩
 refine callType_new F.called_zip (by decide) (F.typeCall_zip_2 _ _) (F.newCall_zip_2 _ _) (fun obj=>F.args_object_init_3 obj _ _) F.entry_zip_new (meets_zip t1 t2 xs ys) ⟨T1,T2,?_⟩
 have z1:(zH1 s.heap t1).objs.size=s.heap.objs.size+1:=Heap.size_push ..
 have z2:(zH1 (zH1 s.heap t1) t2).objs.size=s.heap.objs.size+2:=by rw [Heap.size_push,z1]
 have z3:(zH3 s.heap t1 t2).objs.size=s.heap.objs.size+3:=by rw [Heap.size_push,z2]
 have z4:(zH4 s.heap t1 t2).objs.size=s.heap.objs.size+4:=by rw [Heap.size_push,z3]
 have z5:(zH5 s.heap t1 t2).objs.size=s.heap.objs.size+5:=by rw [Heap.size_push,z4]
 have g5:(zH5 s.heap t1 t2).get? (zH4 s.heap t1 t2).objs.size=some _:=Heap.get?_push_size _ rfl
 have g4:(zH5 s.heap t1 t2).get? (zH3 s.heap t1 t2).objs.size=some _:=Heap.get?_push_of_some _ (Heap.get?_push_size _ rfl)
 have g3:(zH5 s.heap t1 t2).get? (zH1 (zH1 s.heap t1) t2).objs.size=some _:=Heap.get?_push_of_some _ (Heap.get?_push_of_some _ (Heap.get?_push_size _ rfl))
 have f2:(zH5 s.heap t1 t2).get? (zH1 s.heap t1).objs.size=some _:=Heap.get?_push_of_some _ (Heap.get?_push_of_some _ (Heap.get?_push_of_some _ (Heap.get?_push_size _ rfl)))
 have f1:(zH5 s.heap t1 t2).get? s.heap.objs.size=some _:=Heap.get?_push_of_some _ (Heap.get?_push_of_some _ (Heap.get?_push_of_some _ (Heap.get?_push_of_some _ (Heap.get?_push_size _ rfl))))
 have kp:∀c o,s.heap.get? c=some o->(zH5 s.heap t1 t2).get? c=some o:=fun c o x=>Heap.get?_push_of_some _ (Heap.get?_push_of_some _ (Heap.get?_push_of_some _ (Heap.get?_push_of_some _ (Heap.get?_push_of_some _ x))))
 show _/\_
 rw [z2,z3,z4] at g5
 rw [z1,z2] at g3
 rw [z3] at g4
 rw [z1] at f2
 rw [z4]
 refine ⟨⟨_,g5,rfl⟩,?_⟩
 generalize zH5 s.heap t1 t2=h5 at z5 g5 g4 g3 f2 f1 kp
 have a1:t1 < s.heap.objs.size:=Heap.lt_size g1
 have a2:t2 < s.heap.objs.size:=Heap.lt_size g2
 obtain ⟨hp,g,d,tk,os⟩:=s
 have hm:=r1.length
 have hm2:=r2.length
 rw [Array.length_toList] at hm hm2
 have hH5:HandOk A.handled h5:=hh.pres (.grow kp)
 refine list_of_zip (s:=⟨h5,g,d,tk,os⟩) (z:=hp.objs.size+4) (TI:=hp.objs.size+2) (TO:=hp.objs.size+3) (i1:=hp.objs.size) (i2:=hp.objs.size+1) (t1:=t1) (t2:=t2) (xs:=xs) (ys:=ys) hH5 (zipApart_new a1 a2)
  ⟨Or.inl ⟨rfl,g5,_,_,g4⟩,g3,⟨_,f1,rfl,rfl⟩,⟨_,f2,rfl,rfl⟩,T1.at fun o e=>kp _ o e,T2.at fun o e=>kp _ o e⟩ ?_ ?_ (by exact Nat.le_antisymm (jl3 (jc4 _ _ _ _) j0 j2 j3 j1 j2 j3 j0 j1 rfl (Nat.le_of_eq hm2) (Nat.le_of_eq (Eq.symm hm)) (Nat.le_of_eq hl)) (jl3 (jc4 _ _ _ _) j2 j1 j0 j3 j3 j2 j0 j1 rfl (Nat.le_of_eq (Eq.symm hm2)) (Nat.le_of_eq hm) (Nat.le_of_eq (Eq.symm hl)))) (by exact jl2 (jc2 _ _) (jA (jK 0) (jK 1)) j1 j1 j0 (jA (jK 0) (jK 1)) j0 rfl h0 (Nat.le_of_eq (Eq.symm hm))) (by exact jl2 (jc2 _ _) j0 j1 j1 (jK 100) j0 (jK 1000) rfl (Nat.le_of_eq hm) h100) fun h' acc' c' q1 q2 q3=>?_
 ·intro hand hch b hb
  obtain ⟨o,C0,e,hc⟩:=hch.mem_cls b hb
  have e:h5.get? b=some o:=e
  intro q
  simp only [wrs,List.mem_cons,List.not_mem_nil,or_false] at q
  rcases q with rfl | rfl | rfl | rfl | rfl
  ·exact Nat.lt_irrefl _ (Heap.lt_size e)
  ·rw [g5] at e;cases e;cases hc
  ·rw [g4] at e;cases e;cases hc
  ·rw [f1] at e;cases e;cases hc
  ·rw [f2] at e;cases e;cases hc
 ·show _ < h5.objs.size/\_ < h5.objs.size/\_ < h5.objs.size/\_ < h5.objs.size/\_ < h5.objs.size/\_ < h5.objs.size/\_ < h5.objs.size
  rw [z5]
  exact ⟨Nat.lt_succ_self _,Nat.lt_succ_of_lt (Nat.lt_succ_of_lt (Nat.lt_succ_self _)),Nat.lt_succ_of_lt (Nat.lt_succ_self _),Nat.lt_add_of_pos_right (by decide),Nat.add_lt_add_left (by decide) _,Nat.lt_of_lt_of_le a1 (Nat.le_add_right _ _),Nat.lt_of_lt_of_le a2 (Nat.le_add_right _ _)⟩
 ·have old:∀b o,hp.get? b=some o->h'.get? b=some o:=fun b o e=>by
   have hlt:=Heap.lt_size e
   exact q1 b o (Nat.ne_of_lt (Nat.lt_of_lt_of_le hlt (Nat.le_add_right _ _))) (Nat.ne_of_lt (Nat.lt_of_lt_of_le hlt (Nat.le_add_right _ _))) (Nat.ne_of_lt hlt) (Nat.ne_of_lt (Nat.lt_of_lt_of_le hlt (Nat.le_add_right _ _))) (kp b o e)
  have hS:hp.objs.size<=h5.objs.size:=by rw [z5];exact Nat.le_add_right _ _
  refine post_newlistFar (s:=⟨hp,g,d,tk,os⟩) (ds:=(l.zip m).map fun p=>.tup [p.1,p.2]) C hb (fun a o e=>Nat.ne_of_lt (Nat.lt_of_lt_of_le (Heap.lt_size e) hS)) (Nat.le_trans hS (Nat.le_of_lt (Heap.lt_size q2))) old q2 ?_ ?_ hq
  ·refine pairs_rep hl.symm (r1.pres (.grow old)) (r2.pres (.grow old)) (by rw [Array.length_toList,q3.1];exact hm) fun j hj=>?_
   obtain ⟨a,x,y,p1,p2,p3,p4,p5⟩:=q3.2 j (by rw [Array.length_toList,q3.1] at hj;exact hj)
   exact ⟨a,x,y,by rw [Array.getElem?_toList];exact p1,by rw [Array.getElem?_toList];exact p2,by rw [Array.getElem?_toList];exact p3,p4⟩
  ·have hSZ:SZ=1000000:=rfl
   rw [List.length_map,List.length_zip];exact jl3 (jc3 (min _ _) _ _) j2 (jK 100) (jK 1000000) j1 j0 j2 j0 j1 rfl h100 (Nat.le_of_eq (Eq.symm hSZ)) (Nat.min_le_left _ _)
end
end Mine
set_option Elab.async false
namespace Mine
open PySem PyProof.Rows
section
variable {prog:Program} {w:World} {B:Bs} {T:Tab} {A:Around} {E:Value->Shared->Prop} {s:Shared} {H:Hp} {Q:D->Hp->Prop}
theorem immK_update {h:Heap} {a:Addr} {o:Obj} {f:Obj->Obj} (e:h.get? a=some o) (hn:¬Imm o):ImmK h (h.update a f):=
 ImmK.but (Heap.SameBut.update ..).extBut fun o' e'=>by rw [e] at e';cases e';exact hn
theorem list_not_imm {vs:Array Value} {n:Nat}:¬Imm { cls:=.type "list",dict:=none,data:=.seq vs n,slots:=#[] }:=fun q=>q.not_type (by decide) (by decide) rfl
theorem concH_upd {h:Heap} {a:Addr} {l l':List D} {vs:Array Value} {n:Nat} {f:Array Value->Array Value} (C:ConcH B H h) (e:H a=some (.list l)) (g:IsL h a vs n) (hr:RepL B h l' (f vs).toList) (hz:l'.length<=SZ) :
  ConcH B (H.set a (.list l')) (h.update a (Obj.mapSeq f)):=by
 have k:=immK_update (f:=Obj.mapSeq f) g list_not_imm
 intro b ob e'
 by_cases q:b=a
 ·subst q
  rw [Hp.set_self] at e';cases e'
  exact ⟨⟨f vs,_,IsL.update g f,by have:=hr.length;simp only [Array.length_toList] at this;exact jk7 this hz,hr.pres k⟩,(C b _ e).2⟩
 ·rw [Hp.set_other _ _ q] at e'
  obtain ⟨x,y⟩:=C b ob e'
  refine ⟨x.pres k (fun o g'=>by rw [Heap.get?_update_other _ _ (Ne.symm q)];exact g') fun d t qq=>?_,y⟩
  subst qq
  have hd:=RoAt.aux x
  have hda:d≠a:=fun z=>by subst z;rw [e] at hd;cases hd
  exact ⟨by rw [Hp.set_other _ _ hda];exact hd,fun o g'=>by rw [Heap.get?_update_other _ _ (Ne.symm hda)];exact g'⟩
theorem keep_upd {own:Addr->Prop} {a:Addr} {l:List D} {ob:HObj} {f:Obj->Obj} {s':Shared} (e:H a=some (.list l)) (hh:s'.heap=s.heap.update a f) (hg:s'.gens=s.gens:=by rfl) (ho:s'.os=s.os:=by rfl):Keep own H s (H.set a ob) s':=by
 refine ⟨fun b o g hn _=>?_,by rw [hh];simp,hg,ho⟩
 have q:b≠a:=fun z=>by subst z;rw [e] at hn;cases hn
 refine ⟨⟨o,?_,.refl o⟩,by rw [Hp.set_other _ _ q];exact hn⟩
 rw [hh,Heap.get?_update_other _ _ (Ne.symm q)];exact g
theorem stays_upd {a:Addr} {l:List D} {f:Obj->Obj} (C:ConcH B H s.heap) (e:H a=some (.list l)) (hb:B.base.StaysIn s.heap):B.base.StaysIn (s.heap.update a f):=fun b o g=>by
 have q:b≠a:=fun z=>by subst z;rw [(C _ _ e).2] at g;cases g
 rw [Heap.get?_update_other _ _ (Ne.symm q)];exact hb b o g
theorem post_upd {a:Addr} {l l':List D} {vs:Array Value} {n:Nat} {f:Array Value->Array Value} {d:D} {v:Value} {tk:Nat} (C:ConcH B H s.heap) (hb:B.base.StaysIn s.heap) (e:H a=some (.list l)) (g:IsL s.heap a vs n)
  (hr:RepL B s.heap l' (f vs).toList) (hz:l'.length<=SZ) (hd:Rep B s.heap d v) (hq:Q d (H.set a (.list l'))):CallPost B H s Q v { s with heap:=s.heap.update a (Obj.mapSeq f),toks:=tk }:=
 ⟨d,_,hd.pres (immK_update g list_not_imm),concH_upd C e g hr hz,stays_upd C e hb,keep_upd e rfl,hq⟩
noncomputable def mid:Mt->String
 | .append=> "list.append"
 | .pop=> "list.pop"
 | .clear=> "list.clear"
 | .join=> "str.join"
theorem strsOf_rep {h:Heap}:∀{l:List D} {vs:List Value} {xs:List (List Nat)},strsOf l=some xs->RepL B h l vs->∃p:List (Str×Tok),vs=strValues p/\p.map (·.1)=xs.map (fun x=>(⟨x.toArray⟩:Str))/\∀x∈xs,∀c∈x,c < 128
 | [],_,_,hs,r=>by
  simp only [strsOf] at hs;cases hs
  simp only [RepL] at r;subst r
  exact ⟨[],rfl,rfl,fun x hx=>by cases hx⟩
 | .str a::l,_,_,hs,r=>by
  simp only [strsOf] at hs
  cases hq:strsOf l with
  | none=>rw [hq] at hs;cases hs
  | some ys=>
   rw [hq] at hs;cases hs
   simp only [RepL] at r
   obtain ⟨v,vs,rfl,h1,h2⟩:=r
   simp only [Rep] at h1
   obtain ⟨_,hc,t,rfl⟩:=h1
   obtain ⟨p,e,m,hx⟩:=strsOf_rep hq h2
   refine ⟨(⟨a.toArray⟩,t)::p,by rw [e];rfl,by simp [m],fun x hx'=>?_⟩
   rcases List.mem_cons.mp hx' with rfl | hx'
   ·exact hc
   ·exact hx x hx'
 | .none::_,_,_,hs,_=>by simp [strsOf] at hs
 | .bool _::_,_,_,hs,_=>by simp [strsOf] at hs
 | .int _::_,_,_,hs,_=>by simp [strsOf] at hs
 | .tup _::_,_,_,hs,_=>by simp [strsOf] at hs
 | .ref _::_,_,_,hs,_=>by simp [strsOf] at hs
 | .scr::_,_,_,hs,_=>by simp [strsOf] at hs
 | .exc _ _::_,_,_,hs,_=>by simp [strsOf] at hs
 | .cls _::_,_,_,hs,_=>by simp [strsOf] at hs
 | .rng _ _::_,_,_,hs,_=>by simp [strsOf] at hs
theorem joinS_eq (sep:List Nat):∀xs:List (List Nat),Str.join ⟨sep.toArray⟩ (xs.map fun x=>(⟨x.toArray⟩:Str))=⟨(joinS sep xs).toArray⟩
 | []=>rfl
 | [x]=>rfl
 | x::y::r=>by
  have ih:=joinS_eq sep (y::r)
  simp only [List.map_cons] at ih ⊢
  simp only [Str.join,joinS]
  rw [ih,cps_append,cps_append]
theorem joinS_len (sep:List Nat):∀xs:List (List Nat),(joinS sep xs).length<=(xs.map fun x=>x.length+sep.length).sum
 | []=>by simp [joinS]
 | [x]=>by simp [joinS]
 | x::y::r=>by
  have ih:=joinS_len sep (y::r)
  simp only [joinS,List.length_append,List.map_cons,List.sum_cons] at ih ⊢
  exact jl1 (jc5 _ _ _ _ _) j2 (jA (jA j3 j1) j4) (jA (jA j0 j1) j2) (jA (jA j0 j1) (jA (jA j3 j1) j4)) rfl ih
theorem joinS_mem (sep:List Nat) (hs:∀c∈sep,c < 128):∀xs:List (List Nat),(∀x∈xs,∀c∈x,c < 128)->∀c∈joinS sep xs,c < 128
 | [],_,c,hc=>by simp [joinS] at hc
 | [x],h,c,hc=>h x (by simp) c (by simpa [joinS] using hc)
 | x::y::r,h,c,hc=>by
  simp only [joinS,List.mem_append] at hc
  rcases hc with (hc | hc) | hc
  ·exact h x (by simp) c hc
  ·exact hs c hc
  ·exact joinS_mem sep hs (y::r) (fun z hz=>h z (by simp at hz ⊢;exact Or.inr hz)) c hc
theorem foldl_len (sep:List Nat):∀(xs:List (List Nat)) (k:Nat),(xs.map fun x=>(⟨x.toArray⟩:Str)).foldl (fun (a:Nat) (b:Str)=>a+b.length+(⟨sep.toArray⟩:Str).length) k=k+(xs.map fun x=>x.length+sep.length).sum
 | [],k=>by simp
 | x::r,k=>by
  rw [List.map_cons,List.foldl_cons,foldl_len sep r]
  simp only [Str.length,List.size_toArray,List.map_cons,List.sum_cons]
  exact Nat.le_antisymm (jl0 (jc4 _ _ _ _) (jA (jA (jA j0 j1) j2) j3) (jA j0 (jA (jA j1 j2) j3)) rfl) (jl0 (jc4 _ _ _ _) (jA j0 (jA (jA j1 j2) j3)) (jA (jA (jA j0 j1) j2) j3) rfl)
theorem meth_sound {m:Mt} {o:D} {ov:Value} {ds:List D} {vals:List Value} (h:vMeth m o ds H Q) (ho:Rep B s.heap o ov) (hr:RepL B s.heap ds vals) (C:ConcH B H s.heap) (hb:B.base.StaysIn s.heap) :
  wpAny (model prog w) A (call (.builtin (mid m)) (ov::vals)) (CallPost B H s Q) E s:=by
 have hline:=SZ_le
 revert ho hr
 cases m <;> try exact False.elim h
 ·refine inv_kr h fun a h=>?_
  refine inv_k1 h fun x h=>?_
  intro ho hr
  obtain ⟨v,rfl,r⟩:=hr.one
  simp only [Rep] at ho
  subst ho
  obtain ⟨l,e,hz,hq⟩:=h
  obtain ⟨vs,n,g,hz',hl,rl⟩:=C.list e
  refine call_meets F.slot_list_append ⟨_,g,rfl⟩ F.entry_list_append (F.args_list_append_2 _ _) (list_append _ vs n v (by exact jl3 (jc4 _ _ _ _) j0 j2 (jA j2 (jK 1)) j3 j3 j1 j0 j1 rfl (Nat.le_of_eq hl) hz hline)) ⟨g,?_⟩
  exact post_upd C hb e g (by rw [Array.toList_push];exact rl.append (.cons r .nil)) (by simp;exact jk4 hz) (by simp only [Rep]) hq
 ·refine inv_kr h fun a h=>?_
  refine inv_k0 h fun h=>?_
  intro ho hr
  simp only [RepL] at hr
  subst hr
  simp only [Rep] at ho
  subst ho
  obtain ⟨l,x,e,hq⟩:=h
  obtain ⟨vs,n,g,hz',hl,rl⟩:=C.list e
  simp only [List.length_append,List.length_cons,List.length_nil] at hl
  obtain ⟨v,hv,rv⟩:=rl.get (i:=l.length) (d:=x) (by simp)
  have hv':vs[vs.size - 1]?=some v:=by rw [hl];simpa using hv
  refine call_meets F.slot_list_pop ⟨_,g,rfl⟩ F.entry_list_pop (F.args_list_pop_1 _) (MeetsSeq.list_pop_last _ vs n v hv' (by exact jk2 hz' hline)) ⟨g,?_⟩
  refine post_upd C hb e g (l':=l) ?_ (by exact jl2 (jc3 _ _ _) (jA j0 (jA (jK 0) (jK 1))) j2 j2 j1 j0 j1 rfl (Nat.le_of_eq (Eq.symm hl)) hz') rv hq
  have h1:(vs.eraseIdxIfInBounds (vs.size - 1)).toList=vs.toList.take l.length:=by
   have hlt:vs.size - 1 < vs.size:=by exact jl1 (jc2 (_ - (1:Nat)) _) (jA j0 (jK 1)) j1 (jA j0 (jK 1)) j1 rfl (Nat.le_of_eq (Nat.sub_add_cancel (jl1 (jc2 _ _) (jA j1 (jA (jK 0) (jK 1))) j0 (jK 1) j0 rfl (Nat.le_of_eq (Eq.symm hl)))))
   simp only [Array.eraseIdxIfInBounds,hlt,dif_pos,Array.toList_eraseIdx]
   rw [hl]
   apply List.ext_getElem?
   intro i
   rw [List.getElem?_eraseIdx,List.getElem?_take]
   simp only [Array.getElem?_toList]
   by_cases hi:i < l.length
   ·rw [if_pos (by exact jl2 (jc3 _ ((_+((0:Nat)+(1:Nat))) - (1:Nat)) _) (jA j0 (jK 1)) j2 (jA j2 (jA (jK 0) (jK 1))) (jA j1 (jK 1)) (jA j0 (jK 1)) j1 rfl hi (Nat.le_add_of_sub_le (Nat.le_refl ((_+((0:Nat)+(1:Nat))) - (1:Nat))))),if_pos hi]
   ·rw [if_neg (by exact Nat.not_lt_of_le (jl2 (jc3 ((_+((0:Nat)+(1:Nat))) - (1:Nat)) _ _) j2 j1 (jA j0 (jK 1)) (jA j2 (jA (jK 0) (jK 1))) j0 j1 rfl (Nat.le_of_not_lt hi) (Nat.le_of_eq (Nat.sub_add_cancel (jl0 (jc1 _) (jK 1) (jA j0 (jA (jK 0) (jK 1))) rfl))))),if_neg hi,Array.getElem?_eq_none (by exact jl2 (jc3 _ _ _) j0 (jA j2 (jA (jK 0) (jK 1))) j2 j1 j0 (jA j1 (jK 1)) rfl (Nat.le_of_eq hl) (Nat.le_of_not_lt hi))]
  rw [h1]
  have:=rl.take l.length
  simpa using this
 ·refine inv_kr h fun a h=>?_
  refine inv_k0 h fun h=>?_
  intro ho hr
  simp only [RepL] at hr
  subst hr
  simp only [Rep] at ho
  subst ho
  obtain ⟨l,e,hq⟩:=h
  obtain ⟨vs,n,g,hz',hl,rl⟩:=C.list e
  refine call_meets F.slot_list_clear ⟨_,g,rfl⟩ F.entry_list_clear (F.args_list_clear_1 _) (AutoSeq1.list_clear_list_0 _ vs n (by exact jk2 hz' hline)) ⟨g,?_⟩
  exact post_upd C hb e g (l':=[]) .nil (by simp) (by simp only [Rep]) hq
 ·refine inv_ks h fun sep h=>?_
  refine inv_k1 h fun x h=>?_
  refine inv_kr h fun a h=>?_
  intro ho hr
  obtain ⟨v,rfl,r⟩:=hr.one
  simp only [Rep] at ho r
  obtain ⟨hz0,hc0,t,rfl⟩:=ho
  subst r
  obtain ⟨l,xs,e,hs,hz,hq⟩:=h
  obtain ⟨vs,n,g,hz',hl,rl⟩:=C.list e
  obtain ⟨p,e1,e2,hc⟩:=strsOf_rep hs rl
  have hvs:vs=(strValues p).toArray:=by rw [<-e1]
  subst hvs
  refine SC.join (IsL.isList g) e2 ?_ fun t' k=>?_
  ·unfold JoinOk
   rw [List.foldl_toArray',foldl_len]
   ·simp only [Builtin.Str.tooLong,Nat.zero_add,Bool.not_eq_true',decide_eq_false_iff_not];exact Nat.not_lt_of_le (jl2 (jc3 _ _ _) j0 j2 j2 j1 j0 j1 rfl hz hline)
   ·simp
  ·rw [show Txt.join (⟨_⟩:Str) (xs.map fun x=>(⟨x.toArray⟩:Str))=⟨(joinS _ xs).toArray⟩ from (StrLaws.glued_eq_join _ _).trans (joinS_eq _ xs)]
   refine post_same C hb ?_ hq rfl
   simp only [Rep]
   exact ⟨Nat.le_trans (joinS_len _ xs) hz,joinS_mem _ hc0 xs hc,_,rfl⟩
end
end Mine
set_option Elab.async false
namespace Mine
open PySem PyProof.Rows
section
variable {M:Model} {A:Around} {E:Value->Shared->Prop} {s:Shared} {env:Env}
theorem boolOp_and {pos:Pos} {x y:Sem Value} {r:List (Sem Value)} {Q:Value->Shared->Prop}
  (h:wpAny M A x (fun v s₁=>wpAny M A (truthy v) (fun t s₂=>if t then wpAny M A (boolOp pos .And (y::r)) Q E s₂ else Q v s₂) E s₁) E s):wpAny M A (boolOp pos .And (x::y::r)) Q E s:=by
 show wpAny M A (do let v <-x;standAt pos;let t <-holding [v] (truthy v);match BoolOp.And,t with | .And,false | .Or,true=>pure v | _,_=>boolOp pos .And (y::r)) Q E s
 refine wpAny_bind (wpAny_mono h (fun v s₁ h₁=>wpAny_bind (wpAny_standAt (wpAny_bind (wpAny_holding (wpAny_mono h₁ (fun t s₂ h₂=>?_) fun _ _ e=>e))))) fun _ _ e=>e)
 cases t with
 | false=>exact wpAny_pure h₂
 | true=>exact h₂
theorem boolOp_or {pos:Pos} {x y:Sem Value} {r:List (Sem Value)} {Q:Value->Shared->Prop}
  (h:wpAny M A x (fun v s₁=>wpAny M A (truthy v) (fun t s₂=>if t then Q v s₂ else wpAny M A (boolOp pos .Or (y::r)) Q E s₂) E s₁) E s):wpAny M A (boolOp pos .Or (x::y::r)) Q E s:=by
 show wpAny M A (do let v <-x;standAt pos;let t <-holding [v] (truthy v);match BoolOp.Or,t with | .And,false | .Or,true=>pure v | _,_=>boolOp pos .Or (y::r)) Q E s
 refine wpAny_bind (wpAny_mono h (fun v s₁ h₁=>wpAny_bind (wpAny_standAt (wpAny_bind (wpAny_holding (wpAny_mono h₁ (fun t s₂ h₂=>?_) fun _ _ e=>e))))) fun _ _ e=>e)
 cases t with
 | false=>exact h₂
 | true=>exact wpAny_pure h₂
theorem compare2 {l r q:Expr} {o p:CmpOp} {pos:Pos} {Q:Value->Shared->Prop} (hm:behindInMarks p q=false)
  (h:wpAny M A (eval l env) (fun a s₁=>wpAny M A (eval r env) (fun b s₂=>wpAny M A (compareOp o a b) (fun c s₃=>wpAny M A (truthy c) (fun t s₄=>
   if t then wpAny M A (eval q env) (fun d s₅=>wpAny M A (compareOp p b d) Q E s₅) E s₄ else Q c s₄) E s₃) E s₂) E s₁) E s) :
  wpAny M A (eval (.Compare l [o,p] [r,q] pos) env) Q E s:=by
 rw [arm_eval_Compare]
 refine wpAny_bind (wpAny_mono h (fun a s₁ h₁=>?_) fun _ _ e=>e)
 show wpAny M A (do
  let rv <-holding [a] (eval r env)
  standAt pos
  let c <-holding [a,rv] (compareOp o a rv)
  release [a,rv] [c]
  if <-holding [c,rv] (truthy c) then compareChain pos rv [p] [markedBehindIn p q (eval q env)] else pure c) Q E s₁
 refine wpAny_bind (wpAny_holding (wpAny_mono h₁ (fun b s₂ h₂=>wpAny_bind (wpAny_standAt (wpAny_bind (wpAny_holding (wpAny_mono h₂ (fun c s₃ h₃=>wpAny_bind (wpAny_release (wpAny_bind (wpAny_holding
  (wpAny_mono h₃ (fun t s₄ h₄=>?_) fun _ _ e=>e))))) fun _ _ e=>e))))) fun _ _ e=>e))
 cases t with
 | false=>exact wpAny_pure h₄
 | true=>
  rw [markedBehindIn_of_false hm]
  show wpAny M A (do let rv <-holding [b] (eval q env);standAt pos;operate [b,rv] (compareOp p b rv)) Q E s₄
  refine wpAny_bind (wpAny_holding (wpAny_mono h₄ (fun d s₅ h₅=>wpAny_bind (wpAny_standAt ?_)) fun _ _ e=>e))
  exact fun Γ p hΓ=>by rw [Sem.wp_operate];exact h₅ Γ p hΓ
theorem testcompare2 {l r q:Expr} {o p:CmpOp} {pos:Pos} {whole:Sem Value} {Q:Bool->Shared->Prop} (hm:behindInMarks p q=false)
  (h:wpAny M A (eval l env) (fun a s₁=>wpAny M A (eval r env) (fun b s₂=>wpAny M A (compareOp o a b) (fun c s₃=>wpAny M A (truthy c) (fun t s₄=>
   if t then wpAny M A (eval q env) (fun d s₅=>wpAny M A (compareOp p b d) (fun c' s₆=>wpAny M A (truthy c') Q E s₆) E s₅) E s₄ else Q false s₄) E s₃) E s₂) E s₁) E s) :
  wpAny M A (isTrue (.Compare l [o,p] [r,q] pos) env whole) Q E s:=by
 rw [arm_isTrue_Compare]
 refine wpAny_bind (wpAny_mono h (fun a s₁ h₁=>?_) fun _ _ e=>e)
 show wpAny M A (do
  let rv <-holding [a] (eval r env)
  standAt pos
  let c <-holding [a,rv] (compareOp o a rv)
  release [a,rv] [c]
  if <-holding [c,rv] (truthy c) then testChain pos rv [p] [markedBehindIn p q (eval q env)] else pure false) Q E s₁
 refine wpAny_bind (wpAny_holding (wpAny_mono h₁ (fun b s₂ h₂=>wpAny_bind (wpAny_standAt (wpAny_bind (wpAny_holding (wpAny_mono h₂ (fun c s₃ h₃=>wpAny_bind (wpAny_release (wpAny_bind (wpAny_holding
  (wpAny_mono h₃ (fun t s₄ h₄=>?_) fun _ _ e=>e))))) fun _ _ e=>e))))) fun _ _ e=>e))
 cases t with
 | false=>exact wpAny_pure h₄
 | true=>
  rw [markedBehindIn_of_false hm]
  show wpAny M A (do let rv <-holding [b] (eval q env);standAt pos;let c <-operate [b,rv] (compareOp p b rv);holding [c] (truthy c)) Q E s₄
  refine wpAny_bind (wpAny_holding (wpAny_mono h₄ (fun d s₅ h₅=>wpAny_bind (wpAny_standAt (wpAny_bind ?_))) fun _ _ e=>e))
  refine fun Γ p hΓ=>?_
  rw [Sem.wp_operate]
  exact wpAny_mono h₅ (fun c' s₆ h₆=>wpAny_holding h₆) (fun _ _ e=>e) Γ p hΓ
end
theorem lget_get:∀{l:Loc} {i:Nat} {d:D},lget l i=some d->l[i]?=some (some d)
 | [],_,_,h=>by simp [lget] at h
 | x::r,0,d,h=>by simp [lget] at h;simp [h]
 | x::r,n+1,d,h=>by simp only [lget] at h;simpa using lget_get h
section
variable {prog:Program} {w:World} {B:Bs} {T:Tab} {env:Env} {vs:List Str} {loc:Loc} {A:Around} {s:Shared} {H:Hp} {n:Nat} {Q:D->Hp->Prop} {X:Nat->Hp->Prop}
theorem Conc.keep {H':Hp} {s':Shared} (c:Conc B env vs loc H s) (K:Keep noOwn H s H' s') (C':ConcH B H' s'.heap) (b':B.base.StaysIn s'.heap):Conc B env vs loc H' s':=
 ⟨c.fr.keep c.hp K,C',b'⟩
theorem EPost.lift {H1:Hp} {s1 s':Shared} {v:Value} (K:Keep noOwn H s H1 s1) (c:Conc B env vs loc H1 s1) (x:CallPost B H1 s1 Q v s'):EPost B env vs loc H s Q v s':=by
 obtain ⟨d,H',r,c',b',k,q⟩:=x
 exact ⟨d,H',r,c.keep k c' b',K.trans k,q⟩
theorem EPost.from {H1:Hp} {s1 s':Shared} {v:Value} (K:Keep noOwn H s H1 s1) (x:EPost B env vs loc H1 s1 Q v s'):EPost B env vs loc H s Q v s':=by
 obtain ⟨d,H',r,c',k,q⟩:=x
 exact ⟨d,H',r,c',K.trans k,q⟩
theorem ExcOk.le {n0 n1 e c:Nat} {h:Heap} (x:ExcOk B n1 e c h) (hn:n0<=n1):ExcOk B n0 e c h:=by
 obtain ⟨h1,o,us,C,h2,h3,h4,h5,h6,h7,h8⟩:=x
 refine ⟨Nat.le_trans hn h1,o,us,C,h2,h3,h4,h5,h6,?_,h8⟩
 rcases h7 with h7 | ⟨T,oT,ts,q1,q2,r⟩
 ·exact Or.inl h7
 ·exact Or.inr ⟨T,oT,ts,q1,Nat.le_trans hn q2,r⟩
theorem EExc.from {H1:Hp} {s1 s':Shared} {v:Value} (K:Keep noOwn H s H1 s1) (x:EExc B env vs loc H1 s1 X v s'):EExc B env vs loc H s X v s':=by
 obtain ⟨c,H',a,e,ok,c',k,q⟩:=x
 exact ⟨c,H',a,e,ok.le K.size,c',K.trans k,q⟩
theorem EExc.lift {H1:Hp} {s1 s':Shared} {v:Value} (K:Keep noOwn H s H1 s1) (c:Conc B env vs loc H1 s1) (x:CallExc B H1 s1 X v s'):EExc B env vs loc H s X v s':=by
 obtain ⟨k',H',a,e,ok,c',b',k,q⟩:=x
 exact ⟨k',H',a,e,ok.le K.size,c.keep k c' b',K.trans k,q⟩
theorem EsPost.from {H1:Hp} {s1 s':Shared} {v:List Value} {Q:List D->Hp->Prop} (K:Keep noOwn H s H1 s1) (x:EsPost B env vs loc H1 s1 Q v s'):EsPost B env vs loc H s Q v s':=by
 obtain ⟨d,H',r,c',k,q⟩:=x
 exact ⟨d,H',r,c',K.trans k,q⟩
theorem Rep.keep {H':Hp} {s':Shared} {d:D} {v:Value} (r:Rep B s.heap d v) (C:ConcH B H s.heap) (K:Keep noOwn H s H' s'):Rep B s'.heap d v:=r.pres (ImmK.of_keep C K fun _ _ q=>q.elim)
theorem RepL.keep {H':Hp} {s':Shared} {d:List D} {v:List Value} (r:RepL B s.heap d v) (C:ConcH B H s.heap) (K:Keep noOwn H s H' s'):RepL B s'.heap d v:=r.pres (ImmK.of_keep C K fun _ _ q=>q.elim)
theorem AOk.cl (a:AOk B A n H s.heap):A.units+100 < cLine:=by
 have:=a.units;have:cLine=9900:=rfl;exact jl2 (jc3 _ _ _) (jA j0 (jM 10 j2)) (jK 9000) (jK 9900) j1 (jA (jA j0 (jK 100)) (jK 1)) j1 rfl ‹_› (Nat.le_of_eq (Eq.symm this))
theorem load_var {x:Str} {i:Nat} {d:D} {Q:Value->Shared->Prop} {E:Value->Shared->Prop} (hk:kindVar (env.scope.names.lookup x)=true) (hi:ix vs x=some i) (hnb:notBarred x=true) (c:Conc B env vs loc H s) (hl:lget loc i=some d)
  (hq:∀v,Rep B s.heap d v->Q v s):wpAny (model prog w) A (loadName env x) Q E s:=by
 have hl':=lget_get hl
 have hc1:(x==("__classdict__" : Str))=false:=by
  unfold notBarred at hnb;simp only [Bool.and_eq_true,Bool.not_eq_true'] at hnb;exact hnb.2
 cases hkk:env.scope.names.lookup x with
 | none=>rw [hkk] at hk;cases hk
 | some kd=>
  have hkind:env.kindOf x=some kd:=hkk
  cases kd with
  | «local»=>
   obtain ⟨m,hn,hm⟩:=c.fr.ns
   obtain ⟨v,hv,r⟩:=hm x i d hi hl' hkind
   exact wpAny_loadName_local c.fr.kind hkind hn hv (hq v r)
  | cell=>
   obtain ⟨a,ov,e,hc,_,hv⟩:=c.fr.cells x (Or.inl hkind)
   obtain ⟨v,rfl,r⟩:=hv i d hi hl'
   exact wpAny_loadName_cell c.fr.kind hkind e hc (hq v r)
  | free=>
   obtain ⟨a,ov,e,hc,_,hv⟩:=c.fr.cells x (Or.inr hkind)
   obtain ⟨v,rfl,r⟩:=hv i d hi hl'
   exact wpAny_loadName_free c.fr.kind hkind e hc (hq v r) hc1
  | globalExplicit=>rw [hkk] at hk;cases hk
  | globalImplicit=>rw [hkk] at hk;cases hk
theorem name_debug {x:Str} (hnb:notBarred x=true):(x==("__debug__" : Str))=false:=by
 unfold notBarred at hnb;simp only [Bool.and_eq_true,Bool.not_eq_true'] at hnb;exact hnb.1
theorem load_glob {x:Str} {v:Value} {pos:Pos} {Q:Value->Shared->Prop} {E:Value->Shared->Prop} (hB:BOk prog w B T) (hg:isGlob env.scope.names x=true) (hnb:notBarred x=true) (c:Conc B env vs loc H s) (hv:GlobV B x v)
  (hq:Q v s):wpAny (model prog w) A (eval (.Name x pos) env) Q E s:=by
 have hx:env.kindOf x=some .globalImplicit:=by
  unfold isGlob at hg;simpa [Env.kindOf] using hg
 refine Calls.Name_function_global c.fr.kind hx ?_ (name_debug hnb)
 have g1:s.heap.Ns env.globals B.mg:=by rw [c.fr.glob];exact hB.g.keeps c.base
 have g2:s.heap.Ns env.builtins B.mb:=by rw [c.fr.blt];exact hB.b.keeps c.base
 rcases hv with hv | ⟨h1,h2⟩
 ·exact Calls.loadGlobal_global g1 hv hq
 ·exact Calls.loadGlobal_builtin g1 h1 g2 h2 hq
theorem truthy_rep {b:Bool} {v:Value} {Q:Bool->Shared->Prop} {M:Model} {E:Value->Shared->Prop} (r:Rep B s.heap (.bool b) v) (hq:Q b s):wpAny M A (truthy v) Q E s:=by
 simp only [Rep] at r;subst r;exact wpAny_truthy_bool hq
theorem chk_marks {x:Ex} {e:Expr} {sc:List (Str×NameKind)} {op:CmpOp} (h:chkE T sc vs x e=true):behindInMarks op e=false:=by
 have h:=chk_tree h
 cases e <;> first | rfl | exact absurd h Bool.false_ne_true
theorem chk_notStar {x:Ex} {e:Expr} {sc:List (Str×NameKind)} (h:chkE T sc vs x e=true):∀y p,e≠.Starred y p:=by
 rintro y p rfl
 exact absurd (chk_tree h) Bool.false_ne_true
theorem star_plain:∀{es:List Ex} {xs:List Expr} {sc:List (Str×NameKind)} (pos:Pos),chkEs T sc vs es xs=true->backTo pos (starEach xs env)=xs.map fun e=>(false,eval e env)
 | [],[],_,_,_=>rfl
 | [],_::_,_,_,h=>absurd h Bool.false_ne_true
 | _::_,[],_,_,h=>absurd h Bool.false_ne_true
 | e::es,x::xs,sc,pos,h=>by
  replace h:=Bool.and_eq_true_iff.mp h
  have ih:=star_plain pos h.2
  have hs:starEach (x::xs) env=(false,eval x env)::starEach xs env:=by
   cases x <;> first | rfl | exact absurd rfl (chk_notStar h.1 _ _)
  rw [hs]
  unfold backTo at ih ⊢
  simp only [List.map_cons,Bool.false_eq_true,if_false,ih]
theorem spliced_sound:∀{es:List Ex} {xs:List Expr} {Q:List D->Hp->Prop} {s:Shared} {H:Hp},
  (∀(i:Nat) (e:Ex) (x:Expr),es[i]?=some e->xs[i]?=some x->∀{A:Around} {s:Shared} {H:Hp} {Q:D->Hp->Prop},vE B.ns (CallS prog w B n) X e loc H Q->AOk B A n H s.heap->Conc B env vs loc H s ->
   wpAny (model prog w) A (eval x env) (EPost B env vs loc H s Q) (EExc B env vs loc H s X) s)->es.length=xs.length ->
  vEs B.ns (CallS prog w B n) X es loc H Q->AOk B A n H s.heap->Conc B env vs loc H s ->
  wpAny (model prog w) A (spliced (xs.map fun e=>(false,eval e env))) (fun us s'=>EsPost B env vs loc H s Q us s'/\us.length=xs.length) (EExc B env vs loc H s X) s
 | [],[],Q,s,H,_,_,h,a,c=>by
  exact Calls.spliced_nil ⟨⟨[],H,.nil,c,.refl,h⟩,rfl⟩
 | [],_::_,_,_,_,_,hl,_,_,_=>by simp at hl
 | _::_,[],_,_,_,_,hl,_,_,_=>by simp at hl
 | e::es,x::xs,Q,s,H,ih,hl,h,a,c=>by
  rw [List.map_cons]
  refine Calls.spliced_cons (wpAny_mono (ih 0 e x rfl rfl h a c) (fun v s1 hp=>?_) fun _ _ q=>q)
  obtain ⟨d,H1,r1,c1,k1,q1⟩:=hp
  have:=spliced_sound (es:=es) (xs:=xs) (fun i e' x' h1 h2=>ih (i+1) e' x' (by simpa using h1) (by simpa using h2)) (by simpa using hl) q1 (a.keep c.hp k1) c1
  refine wpAny_mono this (fun us s2 hp2=>?_) fun _ _ q=>q.from k1
  obtain ⟨⟨ds,H2,r2,c2,k2,q2⟩,hlen⟩:=hp2
  exact ⟨⟨d::ds,H2,.cons (r1.keep c1.hp k2) r2,c2,k1.trans k2,q2⟩,by simp [hlen]⟩
end
end Mine
set_option Elab.async false
namespace Mine
open PySem PyProof.Rows
structure ScOk (sc:List (Str×NameKind)) (env:Env):Prop where
 var:∀x,kindVar (sc.lookup x)=true->kindVar (env.scope.names.lookup x)=true
 glob:∀x,isGlob sc x=true->isGlob env.scope.names x=true
 cell:∀x,sc.lookup x=some .cell\/sc.lookup x=some .free->env.kindOf x=some .cell\/env.kindOf x=some .free
theorem ScOk.self (env:Env):ScOk env.scope.names env:=⟨fun _ h=>h,fun _ h=>h,fun _ h=>h⟩
noncomputable def clFrom (env:Env):List (Str×NameKind)->List (Str×Addr)->List (Str×Addr)
 | [],cs=>cs
 | (n,k)::r,cs=>clFrom env r (if k==.free then (n,(env.cells.lookup n).getD 0)::cs else cs)
theorem clFrom_loop (env:Env):∀(names:List (Str×NameKind)) (cs:List (Str×Addr)),(∀x∈names,x.2=.free->∃c,env.cells.lookup x.1=some c) ->
  (forIn names cs (fun (x:Str×NameKind) (r:List (Str×Addr))=>match x with
   | (name,kind)=>if (kind==NameKind.free)=true then do let a <-cellOf env name;pure (ForInStep.yield ((name,a)::r)) else pure (ForInStep.yield r)):Sem (List (Str×Addr)))=pure (clFrom env names cs)
 | [],cs,_=>rfl
 | (n,k)::r,cs,h=>by
  rw [List.forIn_cons]
  by_cases hk:(k==NameKind.free)=true
  ·obtain ⟨c,hc⟩:=h (n,k) (by simp) (by simpa using hk)
   have hc':cellOf env n=pure c:=by unfold cellOf;rw [hc]
   have ih:=clFrom_loop env r ((n,c)::cs) fun x hx=>h x (by simp [hx])
   simp only [hk,if_true,hc',pure_bind]
   rw [ih]
   simp only [clFrom,hk,if_true,hc,Option.getD_some]
  ·have hk':(k==NameKind.free)=false:=by simpa using hk
   have ih:=clFrom_loop env r cs fun x hx=>h x (by simp [hx])
   simp only [hk',Bool.false_eq_true,if_false,pure_bind]
   rw [ih]
   simp only [clFrom,hk',Bool.false_eq_true,if_false]
theorem closureFor_is {env:Env} {scope:Scope} (h:∀x∈scope.names,x.2=.free->∃c,env.cells.lookup x.1=some c):closureFor scope env=pure (clFrom env scope.names []):=by
 unfold closureFor
 have:=clFrom_loop env scope.names [] h
 show (do let r <-forIn scope.names ([]:List (Str×Addr)) _;pure r)=_
 rw [this];rfl
theorem clFrom_some {env:Env}:∀{names:List (Str×NameKind)} {cs:List (Str×Addr)} {x:Str} {c:Addr},(∀x∈names,x.2=.free->∃c,env.cells.lookup x.1=some c) ->
  (clFrom env names cs).lookup x=some c->(env.cells.lookup x=some c/\(x,.free)∈names)\/cs.lookup x=some c
 | [],_,_,_,_,h=>Or.inr h
 | (n,k)::r,cs,x,c,hn,h=>by
  simp only [clFrom] at h
  rcases clFrom_some (fun y hy=>hn y (by simp [hy])) h with ⟨h1,h2⟩ | h1
  ·exact Or.inl ⟨h1,by simp [h2]⟩
  ·by_cases hk:(k==NameKind.free)=true
   ·rw [if_pos hk] at h1
    rw [List.lookup_cons] at h1
    cases hx:x==n with
    | true=>
     rw [hx] at h1
     have:x=n:=by simpa using hx
     subst this
     obtain ⟨c',hc'⟩:=hn (x,k) (by simp) (by simpa using hk)
     rw [hc'] at h1
     simp at h1;subst h1
     have:k=.free:=by simpa using hk
     subst this
     exact Or.inl ⟨hc',by simp⟩
    | false=>rw [hx] at h1;exact Or.inr h1
   ·rw [if_neg hk] at h1;exact Or.inr h1
theorem clFrom_mem {env:Env} {x:Str}:∀{names:List (Str×NameKind)} {cs:List (Str×Addr)},(∀x∈names,x.2=.free->∃c,env.cells.lookup x.1=some c) ->
  ((x,.free)∈names\/(cs.lookup x).isSome=true)->((clFrom env names cs).lookup x).isSome=true
 | [],_,_,h=>by rcases h with h | h;cases h;exact h
 | (n,k)::r,cs,hn,h=>by
  simp only [clFrom]
  refine clFrom_mem (fun y hy=>hn y (by simp [hy])) ?_
  rcases h with h | h
  ·rcases List.mem_cons.mp h with h | h
   ·obtain ⟨h1,h2⟩:=Prod.mk.injEq .. ▸ h
    subst h1;subst h2
    exact Or.inr (by simp)
   ·exact Or.inl h
  ·right
   split
   ·rw [List.lookup_cons];split <;> simp_all
   ·exact h
theorem relabel_lookup {env:Env} {names:List (Str×NameKind)} {x:Str}:(names.map fun nk=>if (nk.2==NameKind.free&&env.scope.kind==.function&&env.kindOf nk.1==some .cell) then (nk.1,NameKind.cell) else (nk.1,nk.2)).lookup x =
  (names.lookup x).map fun k=>if (k==NameKind.free&&env.scope.kind==.function&&env.kindOf x==some .cell) then NameKind.cell else k:=by
 induction names with
 | nil=>rfl
 | cons p r ih=>
  obtain ⟨n,k⟩:=p
  rw [List.map_cons]
  cases hx:x==n with
  | true=>
   have:x=n:=by simpa using hx
   subst this
   by_cases hc:(k==NameKind.free&&env.scope.kind==.function&&env.kindOf x==some .cell)=true
   ·simp only [hc,if_true,List.lookup_cons,hx,Option.map_some]
   ·simp only [hc,if_false,List.lookup_cons,hx,Option.map_some,Bool.false_eq_true]
  | false=>
   have e1:∀k',List.lookup x ((n,k')::(r.map fun nk=>if (nk.2==NameKind.free&&env.scope.kind==.function&&env.kindOf nk.1==some .cell) then (nk.1,NameKind.cell) else (nk.1,nk.2)))=List.lookup x (r.map fun nk=>if (nk.2==NameKind.free&&env.scope.kind==.function&&env.kindOf nk.1==some .cell) then (nk.1,NameKind.cell) else (nk.1,nk.2)):=by
    intro k';rw [List.lookup_cons,hx]
   have e2:List.lookup x ((n,k)::r)=List.lookup x r:=by rw [List.lookup_cons,hx]
   rw [e2,<-ih]
   split <;> exact e1 _
section
variable {env:Env} {scope:Scope} {cl:List (Str×Addr)} {C:Addr} {y:Str} {vs:List Str} {sc:List (Str×NameKind)}
theorem comp_kind {x:Str}:(compEnvC scope cl C env).kindOf x=(scope.names.lookup x).map fun k=>if (k==NameKind.free&&env.scope.kind==.function&&env.kindOf x==some .cell) then NameKind.cell else k:=relabel_lookup
theorem comp_scok:ScOk scope.names (compEnvC scope cl C env) where
 var:=fun x h=>by
  have:=comp_kind (scope:=scope) (cl:=cl) (C:=C) (env:=env) (x:=x)
  show kindVar ((compEnvC scope cl C env).kindOf x)=true
  rw [this]
  cases hk:scope.names.lookup x with
  | none=>rw [hk] at h;exact h
  | some k=>
   rw [hk] at h
   simp only [Option.map_some]
   split
   ·rfl
   ·exact h
 glob:=fun x h=>by
  have:=comp_kind (scope:=scope) (cl:=cl) (C:=C) (env:=env) (x:=x)
  unfold isGlob at h ⊢
  have h':scope.names.lookup x=some .globalImplicit:=by simpa using h
  rw [h'] at this
  show ((compEnvC scope cl C env).kindOf x==some NameKind.globalImplicit)=true
  rw [this]
  simp
 cell:=fun x h=>by
  have:=comp_kind (scope:=scope) (cl:=cl) (C:=C) (env:=env) (x:=x)
  rw [this]
  rcases h with h | h
  ·rw [h];simp
  ·rw [h];simp only [Option.map_some]
   split
   ·exact Or.inl rfl
   ·exact Or.inr rfl
structure CsOk (sc:List (Str×NameKind)) (scope:Scope) (y:Str) (vs:List Str):Prop where
 kind:scope.kind=.function
 ly:scope.names.lookup y=some .local
 loc:∀n,(n,NameKind.local)∈scope.names->scope.names.lookup n=some .local/\(n=y\/ix vs n=none)
 free:∀n,(n,NameKind.free)∈scope.names->scope.names.lookup n=some .free/\(sc.lookup n=some .cell\/sc.lookup n=some .free)
 cell:∀n,(n,NameKind.cell)∉scope.names
theorem csOk_of (h:compScopeOk sc scope y vs=true):CsOk sc scope y vs:=by
 unfold compScopeOk at h
 simp only [Bool.and_eq_true,List.all_eq_true] at h
 obtain ⟨⟨h1,h2⟩,h3⟩:=h
 refine ⟨by simpa using h1,by simpa using h2,fun n hn=>?_,fun n hn=>?_,fun n hn=>?_⟩
 ·have:=h3 _ hn
  simp only [Bool.and_eq_true,Bool.or_eq_true,beq_iff_eq] at this
  exact this
 ·have:=h3 _ hn
  simp only [Bool.and_eq_true,Bool.or_eq_true,beq_iff_eq] at this
  exact this
 ·have:=h3 _ hn
  simp at this
theorem mem_of_lookup:∀{l:List (Str×NameKind)} {x:Str} {k:NameKind},l.lookup x=some k->(x,k)∈l
 | [],_,_,h=>by simp at h
 | (n,k')::r,x,k,h=>by
  rw [List.lookup_cons] at h
  cases hx:x==n with
  | true=>
   rw [hx] at h
   have e1:x=n:=by simpa using hx
   have e2:k'=k:=by simpa using h
   subst e1;subst e2;simp
  | false=>rw [hx] at h;exact List.mem_cons_of_mem _ (mem_of_lookup h)
theorem ix_cons {x:Str}:ix (y::vs) x=if y=x then some 0 else (ix vs x).map (·+1):=by
 unfold ix
 rw [List.findIdx?_cons]
 by_cases h:y=x
 ·simp [h]
 ·simp [h]
theorem comp_frame {B:Bs} {loc:Loc} {H:Hp} {h:Heap} {m:Str->Option Value} {od:Option D} (F:FrOk B env vs loc H h) (hsc:ScOk sc env) (cs:CsOk sc scope y vs) (hcl:∀x∈scope.names,x.2=.free->∃c,env.cells.lookup x.1=some c)
  (hn:h.Ns C m) (hC:H C=none) (hd:∀d,od=some d->∃v,m y=some v/\Rep B h d v) :
  FrOk B (compEnvC scope (clFrom env scope.names []) C env) (y::vs) (od::loc) H h:=by
 have hk:∀x,(compEnvC scope (clFrom env scope.names []) C env).kindOf x=some .local->scope.names.lookup x=some .local:=by
  intro x e
  rw [comp_kind] at e
  cases hx:scope.names.lookup x with
  | none=>rw [hx] at e;cases e
  | some k=>
   rw [hx] at e
   simp only [Option.map_some,Option.some.injEq] at e
   split at e
   ·cases e
   ·rw [e]
 have hf:∀x,((compEnvC scope (clFrom env scope.names []) C env).kindOf x=some .cell\/(compEnvC scope (clFrom env scope.names []) C env).kindOf x=some .free)->scope.names.lookup x=some .free:=by
  intro x e
  rw [comp_kind] at e
  cases hx:scope.names.lookup x with
  | none=>rw [hx] at e;rcases e with e | e <;> cases e
  | some k=>
   rw [hx] at e
   simp only [Option.map_some,Option.some.injEq] at e
   split at e
   ·rename_i hc
    simp only [Bool.and_eq_true,beq_iff_eq] at hc
    rw [hc.1.1]
   ·rcases e with e | e
    ·subst e;exact absurd (mem_of_lookup hx) (cs.cell x)
    ·rw [e]
 refine ⟨cs.kind,F.glob,F.blt,⟨m,hn,fun x i d h1 h2 h3=>?_⟩,fun x hx=>?_,fun x c hx=>?_,hC,fun x z c h1 h2=>?_⟩
 ·have hl:=hk x h3
  rcases (cs.loc x (mem_of_lookup hl)).2 with rfl | hnone
  ·rw [ix_cons,if_pos rfl] at h1
   cases h1
   simp at h2
   exact hd d h2
  ·rw [ix_cons] at h1
   split at h1
   ·rename_i hyx
    subst hyx
    cases h1
    simp at h2
    exact hd d h2
   ·rw [hnone] at h1;cases h1
 ·have hl:=hf x hx
  have hm:=mem_of_lookup hl
  obtain ⟨_,hsx⟩:=cs.free x hm
  obtain ⟨c,ov,hc,hcell,hHc,hv⟩:=F.cells x (hsc.cell x hsx)
  have hyx:y≠x:=fun q=>by subst q;rw [cs.ly] at hl;cases hl
  have hsome:=clFrom_mem (env:=env) (x:=x) (cs:=[]) hcl (Or.inl hm)
  obtain ⟨c',hc'⟩:=Option.isSome_iff_exists.mp hsome
  have hcc:c'=c:=by
   rcases clFrom_some hcl hc' with ⟨q,_⟩ | q
   ·rw [hc] at q;cases q;rfl
   ·simp at q
  subst hcc
  refine ⟨c',ov,hc',hcell,hHc,fun i d h1 h2=>?_⟩
  rw [ix_cons,if_neg hyx] at h1
  cases hi:ix vs x with
  | none=>rw [hi] at h1;cases h1
  | some j=>
   rw [hi] at h1;cases h1
   exact hv j d hi (by simpa using h2)
 ·rcases clFrom_some hcl hx with ⟨q,_⟩ | q
  ·exact F.cellsIn x c q
  ·simp at q
 ·have e1:env.cells.lookup x=some c:=by
   rcases clFrom_some hcl h1 with ⟨q,_⟩ | q
   ·exact q
   ·simp at q
  have e2:env.cells.lookup z=some c:=by
   rcases clFrom_some hcl h2 with ⟨q,_⟩ | q
   ·exact q
   ·simp at q
  exact F.cinj x z c e1 e2
end
end Mine
set_option Elab.async false
namespace Mine
open PySem PyProof.Rows
section
variable {prog:Program} {w:World} {B:Bs} {T:Tab} {env:Env} {vs:List Str} {loc:Loc} {A:Around} {E:Value->Shared->Prop} {s:Shared} {H:Hp} {n:Nat}
theorem Keep.but {own:Addr->Prop} {H1 H':Hp} {s1 s4 s5:Shared} {b:Addr} (K:Keep own H1 s1 H' s4) (hs:Heap.ExtBut b s4.heap s5.heap) (hb:s1.heap.objs.size<=b) (hz:s4.heap.objs.size<=s5.heap.objs.size) (hg:s5.gens=s4.gens) (ho:s5.os=s4.os):Keep own H1 s1 H' s5:=
 ⟨fun a o e hn hw=>by
  obtain ⟨⟨o',e',k⟩,q⟩:=K.obj a o e hn hw
  exact ⟨⟨o',hs a o' (Nat.ne_of_lt (Nat.lt_of_lt_of_le (Heap.lt_size e) hb)) e',k⟩,q⟩,Nat.le_trans K.size hz,hg.trans K.gens,ho.trans K.os⟩
theorem ConcH.but {h h':Heap} {b:Addr} (C:ConcH B H h) (hs:Heap.ExtBut b h h') (hb:H b=none) (hi:∀o,h.get? b=some o->¬Imm o):ConcH B H h':=
 C.pres (ImmK.but hs hi) fun a ob o e g=>hs a o (fun q=>by subst q;rw [hb] at e;cases e) g
theorem StaysIn.but {base h h':Heap} {b:Addr} (x:base.StaysIn h) (hs:Heap.ExtBut b h h') (hb:base.get? b=none):base.StaysIn h':=fun a o e=>hs a o (fun q=>by subst q;rw [hb] at e;cases e) (x a o e)
theorem base_none_of_ge {s1:Shared} {b:Addr} (hb:B.base.StaysIn s1.heap) (hle:s1.heap.objs.size<=b):B.base.get? b=none:=by
 cases e:B.base.get? b with
 | none=>rfl
 | some o=>exact absurd (Heap.lt_size (hb b o e)) (Nat.not_lt.mpr hle)
theorem cell_not_imm {h:Heap} {m:Str->Option Value} {C:Addr} (x:h.Ns C m):∀o,h.get? C=some o->¬Imm o:=by
 obtain ⟨o,es,ep,e,hd,_⟩:=x
 intro o' e' i
 rw [e] at e';cases e'
 exact i.not_dict es ep hd
structure CInv (B:Bs) (s1:Shared) (H1:Hp) (it D' C:Addr) (sr:Src) (src:D) (i:Nat) (acc:List D) (H':Hp) (s':Shared):Prop where
 keep:Keep noOwn H1 s1 H' s'
 hp:ConcH B H' s'.heap
 base:B.base.StaysIn s'.heap
 iter:IterAt s'.heap it sr i
 srcok:SrcOk B s'.heap sr src
 accl:∃vals k,IsL s'.heap D' vals k/\RepL B s'.heap acc vals.toList
 ns:∃m,s'.heap.Ns C m
 hit:H' it=none
 hD:H' D'=none
 hC:H' C=none
 le:acc.length<=i
theorem fresh_step {H' H'':Hp} {s4 s5:Shared} {b:Addr} {o:Obj} (K:Keep noOwn H' s4 H'' s5) (e:s4.heap.get? b=some o) (hn:H' b=none):H'' b=none:=(K.obj b o e hn fun q=>q).2
theorem comp_loop {s1:Shared} {H1:Hp} {it D' C:Addr} {sr:Src} {src:D} {all:List D} {sc:List (Str×NameKind)} {scope:Scope} {y:Str} {elt iter:Expr} {ifs:List Expr} {py' pos:Pos}
  {f:D->Hp->(Option D->Hp->Prop)->Prop} {Qf:List D->Hp->Prop} {R:Result->Shared->Prop}
  (c1:Conc B env vs loc H1 s1) (a1:AOk B A n H1 s1.heap) (hsc:ScOk sc env) (cs:CsOk sc scope y vs) (hcl:∀x∈scope.names,x.2=.free->∃c,env.cells.lookup x.1=some c)
  (g1:s1.heap.objs.size<=it) (g2:s1.heap.objs.size<=D') (g3:s1.heap.objs.size<=C) (n1:it≠D') (n2:it≠C) (n3:D'≠C) (hall:all.length<=SZ)
  (hbody:∀d H' K s',f d H' K->AOk B A n H' s'.heap->Conc B (compEnvC scope (clFrom env scope.names []) C env) (y::vs) (some d::loc) H' s' ->
   wpAny (model prog w) A (forIn ifs true fun c r=>if r=true then do let ok <-isTrue c (compEnvC scope (clFrom env scope.names []) C env) (eval c (compEnvC scope (clFrom env scope.names []) C env));pure (ForInStep.yield ok) else pure (ForInStep.yield r))
    (fun ok s3=>if ok=true then wpAny (model prog w) A (eval elt (compEnvC scope (clFrom env scope.names []) C env)) (fun v s4=>∃dv H'',Rep B s4.heap dv v/\ConcH B H'' s4.heap/\B.base.StaysIn s4.heap/\Keep noOwn H' s' H'' s4/\K (some dv) H'') (fun _ _=>False) s3
     else ∃H'',ConcH B H'' s3.heap/\B.base.StaysIn s3.heap/\Keep noOwn H' s' H'' s3/\K none H'') (fun _ _=>False) s')
  (hR:∀acc H' s',CInv B s1 H1 it D' C sr src all.length acc H' s'->Qf acc H'->∀s'',(∃h',s''={ s' with heap:=h' }/\Heap.ExtBut it s'.heap h'/\s'.heap.objs.size<=h'.objs.size)->R (.ok .next) s'')
  {s:Shared} {H:Hp} (I:CInv B s1 H1 it D' C sr src 0 [] H s) (hf:compL src all f Qf all [] H) :
  codeAny (model prog w) A (.compLoop (.ListComp elt [⟨.Name y py',iter,ifs,0⟩] scope pos) 0 (.ref it) (.ref D') (compEnvC scope (clFrom env scope.names []) C env)) R s:=by
 have hline:=SZ_le
 refine codeAny_compLoop_tests (fun k s'=>∃i acc H',k=all.length+1 - i/\i<=all.length/\CInv B s1 H1 it D' C sr src i acc H' s'/\compL src all f Qf (all.drop i) acc H') ?_ (all.length+1) ⟨0,[],H,rfl,Nat.zero_le _,I,by simpa using hf⟩
 rintro k s' ⟨i,acc,H',rfl,hi,I,hc⟩
 have immS:ImmK s1.heap s'.heap:=ImmK.of_keep c1.hp I.keep fun _ _ q=>q.elim
 have hAs:AOk B A n H' s'.heap:=a1.keep c1.hp I.keep
 by_cases hlt:i < all.length
 ·-- a turn
  have hx:all[i]?=some all[i]:=List.getElem?_eq_getElem hlt
  rw [List.drop_eq_getElem_cons hlt] at hc
  replace hc:_/\_:=hc
  obtain ⟨hitd,hc⟩:=hc
  refine next_item hitd I.srcok I.iter I.hp hx fun v h2 tk rv hit2 hsb=>?_
  have hni:=I.iter.not_imm
  have I2:CInv B s1 H1 it D' C sr src (i+1) acc H' { s' with heap:=h2,toks:=tk }:=by
   have hE:=hsb.extBut
   obtain ⟨vals,k,hl,hr⟩:=I.accl
   obtain ⟨m,hm⟩:=I.ns
   exact ⟨I.keep.but hE g1 (Nat.le_of_eq hsb.1.symm) rfl rfl,I.hp.but hE I.hit hni,StaysIn.but I.base hE (base_none_of_ge c1.base g1),hit2,I.srcok.pres (ImmK.but hE hni),⟨vals,k,hE _ _ (Ne.symm n1) hl,hr.pres (ImmK.but hE hni)⟩,
    ⟨m,hm.extBut hE (Ne.symm n2)⟩,I.hit,I.hD,I.hC,Nat.le_succ_of_le I.le⟩
  obtain ⟨m2,hm2⟩:=I2.ns
  have hkl:(compEnvC scope (clFrom env scope.names []) C env).kindOf y=some .local:=by rw [comp_kind,cs.ly];simp
  refine wpAny_assign_Name (wpAny_storeName_local hkl hm2 (fun h3 hn3 hsb3=>?_) (by simp [compEnvC,relabel,cs.kind]))
  have hE3:=hsb3.extBut
  have hniC:=cell_not_imm hm2
  have I3:CInv B s1 H1 it D' C sr src (i+1) acc H' { s' with heap:=h3,toks:=tk+1 }:=by
   obtain ⟨vals,k,hl,hr⟩:=I2.accl
   exact ⟨I2.keep.but hE3 g3 (Nat.le_of_eq hsb3.1.symm) rfl rfl,I2.hp.but hE3 I.hC hniC,StaysIn.but I2.base hE3 (base_none_of_ge c1.base g3),I2.iter.keep (fun o e=>hE3 _ o n2 e),I2.srcok.pres (ImmK.but hE3 hniC),⟨vals,k,hE3 _ _ n3 hl,hr.pres (ImmK.but hE3 hniC)⟩,
    ⟨_,hn3⟩,I.hit,I.hD,I.hC,I2.le⟩
  have rv3:Rep B h3 all[i] v:=rv.pres (ImmK.but hE3 hniC)
  have cc:Conc B (compEnvC scope (clFrom env scope.names []) C env) (y::vs) (some all[i]::loc) H' { s' with heap:=h3,toks:=tk+1 }:=
   ⟨comp_frame (c1.fr.keep c1.hp I3.keep) hsc cs hcl hn3 I3.hC (fun d hd=>by cases hd;exact ⟨v,by simp,rv3⟩),I3.hp,I3.base⟩
  have hA3:AOk B A n H' ({ s' with heap:=h3,toks:=tk+1 }:Shared).heap:=a1.keep c1.hp I3.keep
  refine wpAny_mono (hbody all[i] H' _ _ hc hA3 cc) (fun ok s4 h4=>?_) fun _ _ q=>q.elim
  cases ok with
  | false=>
   simp only [Bool.false_eq_true,if_false] at h4 ⊢
   obtain ⟨H'',cH,cB,kk,hK⟩:=h4
   obtain ⟨vals,k,hl,hr⟩:=I3.accl
   obtain ⟨o,T',e1,_,_,_,us,hus⟩:=I3.iter.obj
   have imm3:ImmK h3 s4.heap:=ImmK.of_keep I3.hp kk fun _ _ q=>q.elim
   have kobj:∀b o,h3.get? b=some o->H' b=none->(∀es m,o.data≠.dict es m)->s4.heap.get? b=some o/\H'' b=none:=fun b o e hn hd=>by
    obtain ⟨⟨o',e',q⟩,hn'⟩:=kk.obj b o e hn fun q=>q
    rw [q.eq hd] at e';exact ⟨e',hn'⟩
   refine ⟨all.length+1 - (i+1),by exact jk55 hlt,i+1,acc,H'',rfl,hlt,⟨I3.keep.trans kk,cH,cB,I3.iter.keep (fun o e=>(kobj it o e I3.hit (by rw [e1] at e;cases e;intro es m q;rw [hus] at q;cases q)).1),I3.srcok.pres imm3,
    ⟨vals,k,(kobj D' _ hl I3.hD (by intro es m q;cases q)).1,hr.pres imm3⟩,⟨_,Ns.keepO hn3 fun o e=>(kk.obj C o e I3.hC fun q=>q).1⟩,(kobj it o e1 I3.hit (by intro es m q;rw [hus] at q;cases q)).2,(kobj D' _ hl I3.hD (by intro es m q;cases q)).2,?_,I3.le⟩,hK⟩
   obtain ⟨oC,_,_,eC,_⟩:=hn3
   exact (kk.obj C oC eC I3.hC fun q=>q).2
  | true=>
   simp only [if_true] at h4 ⊢
   refine wpAny_mono h4 (fun u s5 h5=>?_) fun _ _ q=>q.elim
   obtain ⟨dv,H'',ru,cH,cB,kk,hK⟩:=h5
   obtain ⟨vals,k,hl,hr⟩:=I3.accl
   obtain ⟨o,T',e1,_,_,_,us,hus⟩:=I3.iter.obj
   have imm3:ImmK h3 s5.heap:=ImmK.of_keep I3.hp kk fun _ _ q=>q.elim
   have kobj:∀b o,h3.get? b=some o->H' b=none->(∀es m,o.data≠.dict es m)->s5.heap.get? b=some o/\H'' b=none:=fun b o e hn hd=>by
    obtain ⟨⟨o',e',q⟩,hn'⟩:=kk.obj b o e hn fun q=>q
    rw [q.eq hd] at e';exact ⟨e',hn'⟩
   have hl5:=(kobj D' _ hl I3.hD (by intro es m q;cases q))
   have hsz:vals.size<=sizeLine:=by
    have:=hr.length;simp only [Array.length_toList] at this
    have:=I3.le
    exact jl3 (jc6 _ _ _ _ _ _) j5 (jA j4 (jK 1)) (jA j2 j3) (jA j3 j1) (jA (jA j4 (jK 1)) j0) (jA j2 j5) j0 j1 rfl this (Nat.add_le_add hall hline) (Nat.add_le_add hlt (Nat.le_of_eq ‹_›))
   refine call_meets F.slot_list_append ⟨_,hl5.1,rfl⟩ F.entry_list_append (F.args_list_append_2 _ _) (list_append D' vals k u hsz) ⟨hl5.1,?_⟩
   have hE6:Heap.ExtBut D' s5.heap (s5.heap.update D' (Obj.mapSeq fun x=>x.push u)):=(Heap.SameBut.update ..).extBut
   have hni6:∀o,s5.heap.get? D'=some o->¬Imm o:=fun o e=>by
    obtain rfl:=Option.some.inj (hl5.1.symm.trans e)
    exact list_not_imm
   have hit5:=kobj it o e1 I3.hit (by intro es m q;rw [hus] at q;cases q)
   have hns5:s5.heap.Ns C _:=Ns.keepO hn3 fun o e=>(kk.obj C o e I3.hC fun q=>q).1
   refine ⟨all.length+1 - (i+1),by exact jk55 hlt,i+1,acc++[dv],H'',rfl,hlt,⟨(I3.keep.trans kk).but hE6 g2 (by simp) rfl rfl,cH.but hE6 hl5.2 hni6,StaysIn.but cB hE6 (base_none_of_ge c1.base g2),
    (I3.iter.keep (fun o' e=>(kobj it o' e I3.hit (by rw [e1] at e;cases e;intro es m q;rw [hus] at q;cases q)).1)).keep (fun o' e=>hE6 _ o' n1 e),(I3.srcok.pres imm3).pres (ImmK.but hE6 hni6),
    ⟨vals.push u,_,IsL.update hl5.1 _,?_⟩,⟨_,hns5.extBut hE6 (Ne.symm n3)⟩,hit5.2,hl5.2,?_,?_⟩,hK⟩
   ·rw [Array.toList_push]
    exact ((hr.pres imm3).append (.cons ru .nil)).pres (ImmK.but hE6 hni6)
   ·obtain ⟨oC,_,_,eC,_⟩:=hn3
    exact (kk.obj C oC eC I3.hC fun q=>q).2
   ·have:=I.le;simp;exact jk23 this
 ·-- the end
  have hie:i=all.length:=by exact jk27 hi hlt
  subst hie
  rw [List.drop_length] at hc
  replace hc:_/\_:=hc
  exact next_end hAs.hand hc.1 I.srcok I.iter I.hp rfl fun h' hE hz=>hR acc H' s' I hc.2 _ ⟨h',rfl,hE,hz⟩
end
end Mine
set_option Elab.async false
namespace Mine
open PySem PyProof.Rows
section
variable {prog:Program} {w:World} {B:Bs} {T:Tab} {env:Env} {vs:List Str} {loc:Loc} {A:Around} {E:Value->Shared->Prop} {s:Shared} {H:Hp} {n:Nat}
theorem leN {a b:Nat} (h:a<=b):a<=b:=h
theorem neN {a b:Nat} (h:a≠b):a≠b:=h
theorem nltN {a b:Nat} (h:¬a < b):¬a < b:=h
theorem iter_self {it:Addr} {sr:Src} {i:Nat} {Q:Value->Shared->Prop} (hit:IterAt s.heap it sr i) (h:Q (.ref it) s):wpAny (model prog w) A (pyIter (.ref it)) Q E s:=by
 cases sr with
 | list l=>exact wpAny_pyIter_listiter hit h
 | tup t=>exact wpAny_pyIter_tupleiter hit h
 | str x t=>exact wpAny_pyIter_striter_ascii hit h
 | rng a b=>exact wpAny_pyIter_rangeiter hit h
theorem concH_add {h:Heap} {D':Addr} {vals:Array Value} {k:Nat} {acc:List D} (C:ConcH B H h) (hl:IsL h D' vals k) (hr:RepL B h acc vals.toList) (hD:H D'=none) (hb:B.base.get? D'=none) (hz:acc.length<=SZ) :
  ConcH B (H.set D' (.list acc)) h:=by
 intro a ob e
 by_cases q:a=D'
 ·subst q
  rw [Hp.set_self] at e;cases e
  exact ⟨⟨vals,k,hl,by have:=hr.length;simp only [Array.length_toList] at this;exact jk7 this hz,hr⟩,hb⟩
 ·rw [Hp.set_other _ _ q] at e
  obtain ⟨x,y⟩:=C a ob e
  refine ⟨x.pres (.refl _) (fun o g=>g) fun d t qq=>?_,y⟩
  subst qq
  have hd:=RoAt.aux x
  refine ⟨?_,fun o g=>g⟩
  rw [Hp.set_other];exact hd
  intro z;subst z;rw [hD] at hd;cases hd
theorem keep_add {own:Addr->Prop} {H1 H':Hp} {s1 s':Shared} {D':Addr} {ob:HObj} (K:Keep own H1 s1 H' s') (hg:s1.heap.objs.size<=D'):Keep own H1 s1 (H'.set D' ob) s':=
 ⟨fun a o e hn hw=>by
  obtain ⟨x,q⟩:=K.obj a o e hn hw
  refine ⟨x,?_⟩
  rw [Hp.set_other];exact q
  exact Nat.ne_of_lt (Nat.lt_of_lt_of_le (Heap.lt_size e) hg),K.size,K.gens,K.os⟩
theorem fr_closure {sc:List (Str×NameKind)} {scope:Scope} {y:Str} {h:Heap} (F:FrOk B env vs loc H h) (hsc:ScOk sc env) (cs:CsOk sc scope y vs):∀x∈scope.names,x.2=.free->∃c,env.cells.lookup x.1=some c:=by
 rintro ⟨x,k⟩ hx hk
 simp only at hk;subst hk
 obtain ⟨c,_,hc,_⟩:=F.cells x (hsc.cell x (cs.free x hx).2)
 exact ⟨c,hc⟩
theorem comp_any {s1:Shared} {H1:Hp} {src:D} {all:List D} {sc:List (Str×NameKind)} {scope:Scope} {y:Str} {elt iter:Expr} {ifs:List Expr} {py' pos:Pos} {use:Option (Value->Sem Unit)}
  {f:D->Hp->(Option D->Hp->Prop)->Prop} {Qf:List D->Hp->Prop} {Q:Value->Shared->Prop} {x1:Value}
  (c1:Conc B env vs loc H1 s1) (a1:AOk B A n H1 s1.heap) (hsc:ScOk sc env) (cs:CsOk sc scope y vs) (hi:iterD H1 src=some all) (hr:Rep B s1.heap src x1)
  (hbody:∀C d H' K s',f d H' K->AOk B A n H' s'.heap->Conc B (compEnvC scope (clFrom env scope.names []) C env) (y::vs) (some d::loc) H' s' ->
   wpAny (model prog w) A (forIn ifs true fun c r=>if r=true then do let ok <-isTrue c (compEnvC scope (clFrom env scope.names []) C env) (eval c (compEnvC scope (clFrom env scope.names []) C env));pure (ForInStep.yield ok) else pure (ForInStep.yield r))
    (fun ok s3=>if ok=true then wpAny (model prog w) A (eval elt (compEnvC scope (clFrom env scope.names []) C env)) (fun v s4=>∃dv H'',Rep B s4.heap dv v/\ConcH B H'' s4.heap/\B.base.StaysIn s4.heap/\Keep noOwn H' s' H'' s4/\K (some dv) H'') (fun _ _=>False) s3
     else ∃H'',ConcH B H'' s3.heap/\B.base.StaysIn s3.heap/\Keep noOwn H' s' H'' s3/\K none H'') (fun _ _=>False) s')
  (hf:compL src all f Qf all [] H1)
  (hQ:∀D' C acc H' s',H1 D'=none->s1.heap.objs.size<=D'->s1.heap.objs.size<=C->Qf acc H'->H' D'=none->Keep noOwn H1 s1 (H'.set D' (.list acc)) s'->ConcH B (H'.set D' (.list acc)) s'.heap->B.base.StaysIn s'.heap->(∃m,s'.heap.Ns C m)->(H'.set D' (.list acc)) C=none ->
   compPost (model prog w) A E use Q (.ref D') C (.ok .next) s') :
  wpAny (model prog w) A (pyIter x1) (fun it s₂=>wpAny (model prog w) A (newList []) (fun acc s₃=>
   wpAny (model prog w) A (newFunctionEnv scope env.globals (clFrom env scope.names []) [] env.qual none .none (some env)) (fun cenv s₄=>
    codeAny (model prog w) A (.compStart (.ListComp elt [⟨.Name y py',iter,ifs,0⟩] scope pos) 0 it acc { cenv with scope:=relabel scope env }) (compPost (model prog w) A E use Q acc cenv.locals) s₄) E s₃) E s₂) E s1:=by
 have hline:=SZ_le
 have hcl:=fr_closure c1.fr hsc cs
 have hall:all.length<=SZ:=by
  unfold iterD at hi
  split at hi
  ·cases hi
   simp only [Rep] at hr
   simpa using hr.1
  ·cases hi
   simp only [Rep] at hr
   obtain ⟨t,ws,k,_,_,hz,rl⟩:=hr
   have:=rl.length;simp only [Array.length_toList] at this;exact jk14 this hz
  ·split at hi
   ·rename_i e
    cases hi
    obtain ⟨ws,k,_,hz,hl,_⟩:=c1.hp.list e
    exact jk14 hl hz
   ·cases hi
  ·split at hi
   ·cases hi
    simp only [intsOf,List.length_map,List.length_range,SZ];omega
   ·cases hi
  ·cases hi
 refine iter_make hi hr c1.hp fun o sr hsr hit=>?_
 refine wpAny_newObj_type (wpAny_newFunctionEnv (fun x hx q=>by
  obtain ⟨x,k⟩:=x
  simp only at q;subst q
  exact cs.cell x hx) (by intro z hz;simp at hz) (fun h4 hns4 hsb4=>?_) cs.kind) (by size_fits)
 dsimp only at hns4 hsb4 ⊢
 have eD:(s1.heap.push o).objs.size=s1.heap.objs.size+1:=Heap.size_push ..
 have eC:((s1.heap.push o).push { cls:=.type "list",dict:=none,data:=.seq ([]:List Value).toArray }).objs.size=s1.heap.objs.size+2:=by rw [Heap.size_push,eD]
 have hsz4:h4.objs.size=s1.heap.objs.size+3:=by rw [hsb4.1,Heap.size_push,eC]
 have old:∀b o',s1.heap.get? b=some o'->h4.get? b=some o':=fun b o' e=>by
  have:b≠((s1.heap.push o).push { cls:=.type "list",dict:=none,data:=.seq ([]:List Value).toArray }).objs.size:=neN (by have h9:=Nat.lt_of_lt_of_le (Heap.lt_size e) (Nat.le_refl _);exact Nat.ne_of_lt (jl2 (jc3 _ _ _) (jA j0 (jK 1)) j2 (jA j2 (jK 2)) j1 (jA j0 (jK 1)) j1 rfl h9 (Nat.le_of_eq (Eq.symm eC))))
  rw [hsb4.2 b this]
  exact push_keep _ b o' (push_keep _ b o' (push_keep _ b o' e))
 have hI0:CInv B s1 H1 s1.heap.objs.size (s1.heap.push o).objs.size ((s1.heap.push o).push { cls:=.type "list",dict:=none,data:=.seq ([]:List Value).toArray }).objs.size sr src 0 [] H1 { s1 with heap:=h4,toks:=s1.toks+([]:List (Str×Value)).length }:=by
  have fr:∀b,s1.heap.objs.size<=b->H1 b=none:=fun b hb=>by
   cases q:H1 b with
   | none=>rfl
   | some ob=>exact absurd (c1.hp.lt q) (Nat.not_lt.mpr hb)
  refine ⟨.grow old (by show s1.heap.objs.size<=h4.objs.size;exact jl1 (jc2 _ _) (jA j0 (jK 3)) j1 j0 j1 rfl (Nat.le_of_eq (Eq.symm hsz4))) rfl rfl,c1.hp.grow old,fun a o e=>old a o (c1.base a o e),?_,hsr.pres (.grow old),⟨#[],0,?_,.nil⟩,⟨_,hns4⟩,fr _ (Nat.le_refl _),fr _ (leN (by exact jk3 eD)),fr _ (leN (by exact jk28 eC)),Nat.le_refl _⟩
  ·refine hit.keep fun o' e=>?_
   rw [hsb4.2 _ (neN (by exact jk56 eC))]
   exact push_keep _ _ _ (push_keep _ _ _ e)
  ·show h4.get? _=_
   rw [hsb4.2 _ (neN (by exact jk57 eD eC))]
   exact push_keep _ _ _ (Heap.get?_push_size _ rfl)
 have loop:codeAny (model prog w) A (.compLoop (.ListComp elt [⟨.Name y py',iter,ifs,0⟩] scope pos) 0 (.ref s1.heap.objs.size) (.ref (s1.heap.push o).objs.size)
   (compEnvC scope (clFrom env scope.names []) ((s1.heap.push o).push { cls:=.type "list",dict:=none,data:=.seq ([]:List Value).toArray }).objs.size env))
   (compPost (model prog w) A E use Q (.ref (s1.heap.push o).objs.size) ((s1.heap.push o).push { cls:=.type "list",dict:=none,data:=.seq ([]:List Value).toArray }).objs.size) { s1 with heap:=h4,toks:=s1.toks+([]:List (Str×Value)).length }:=by
  refine comp_loop c1 a1 hsc cs hcl (Nat.le_refl _) (leN (by exact jk3 eD)) (leN (by exact jk28 eC)) (neN (by exact Nat.ne_of_lt (jl1 (jc2 _ _) (jA j0 (jK 1)) j1 (jA j0 (jK 1)) j1 rfl (Nat.le_of_eq (Eq.symm eD))))) (neN (by exact jk56 eC)) (neN (by exact jk57 eD eC)) hall (hbody _) (fun acc H' s' I hqf s'' hs''=>?_) hI0 hf
  obtain ⟨h',rfl,hE,hz⟩:=hs''
  have hni:=I.iter.not_imm
  obtain ⟨vals,k,hl,hrl⟩:=I.accl
  obtain ⟨m,hm⟩:=I.ns
  have K:Keep noOwn H1 s1 H' { s' with heap:=h' }:=I.keep.but hE (Nat.le_refl _) hz rfl rfl
  have CH:ConcH B H' h':=I.hp.but hE I.hit hni
  have hl':IsL h' (s1.heap.push o).objs.size vals k:=hE _ _ (neN (by exact Nat.ne_of_gt (jl1 (jc2 _ _) (jA j0 (jK 1)) j1 (jA j0 (jK 1)) j1 rfl (Nat.le_of_eq (Eq.symm eD))))) hl
  refine hQ _ _ acc H' _ ?_ (leN (by exact jk3 eD)) (leN (by exact jk28 eC)) hqf I.hD (keep_add K (leN (by exact jk3 eD))) (concH_add CH hl' (hrl.pres (ImmK.but hE hni)) I.hD (base_none_of_ge c1.base (leN (by exact jk3 eD))) (by have:=I.le;exact jk2 this hall)) (StaysIn.but I.base hE (base_none_of_ge c1.base (Nat.le_refl _))) ⟨m,hm.extBut hE (neN (by exact Nat.ne_of_gt (jl1 (jc2 _ _) (jA j0 (jK 2)) j1 (jA j0 (jK 1)) j1 rfl (Nat.le_of_eq (Eq.symm eC)))))⟩ ?_
  ·cases q:H1 (s1.heap.push o).objs.size with
   | none=>rfl
   | some ob=>exact absurd (c1.hp.lt q) (nltN (by exact Nat.not_lt_of_le (jl1 (jc2 _ _) (jA j0 (jK 1)) j1 j0 j1 rfl (Nat.le_of_eq (Eq.symm eD)))))
  ·rw [Hp.set_other _ _ (neN (by exact Nat.ne_of_gt (jl2 (jc3 _ _ _) (jA j2 (jK 2)) j1 j0 (jA j2 (jK 1)) (jA j0 (jK 1)) j1 rfl (Nat.le_of_eq (Eq.symm eC)) (Nat.le_of_eq eD))))];exact I.hC
 exact codeAny_compStart_list loop (iter_self (sr:=sr) (i:=0) hI0.iter loop)
end
end Mine
set_option Elab.async false
namespace Mine
open PySem PyProof.Rows
noncomputable def TPost (B:Bs) (env:Env) (vs:List Str) (loc:Loc) (H:Hp) (s:Shared) (Q:Bool->Hp->Prop):Bool->Shared->Prop:=
 fun b s'=>∃H',Conc B env vs loc H' s'/\Keep noOwn H s H' s'/\Q b H'
noncomputable def Snd (prog:Program) (w:World) (B:Bs) (T:Tab) (n:Nat) (x:Ex):Prop:=
 ∀(e:Expr) (sc:List (Str×NameKind)) (env:Env) (vs:List Str) (loc:Loc) (H:Hp) (A:Around) (s:Shared),chkE T sc vs x e=true->ScOk sc env->AOk B A n H s.heap->Conc B env vs loc H s ->
  (∀(Q:D->Hp->Prop) (X:Nat->Hp->Prop),vE B.ns (CallS prog w B n) X x loc H Q->wpAny (model prog w) A (eval e env) (EPost B env vs loc H s Q) (EExc B env vs loc H s X) s) /\
  (∀(Q:Bool->Hp->Prop) (X:Nat->Hp->Prop),vE B.ns (CallS prog w B n) X x loc H (fun d H'=>KB d fun b=>Q b H')->wpAny (model prog w) A (isTrue e env (eval e env)) (TPost B env vs loc H s Q) (EExc B env vs loc H s X) s)
section
variable {prog:Program} {w:World} {B:Bs} {T:Tab} {n:Nat}
theorem TPost.from {env:Env} {vs:List Str} {loc:Loc} {H H1:Hp} {s s1 s':Shared} {Q:Bool->Hp->Prop} {b:Bool} (K:Keep noOwn H s H1 s1) (x:TPost B env vs loc H1 s1 Q b s'):TPost B env vs loc H s Q b s':=by
 obtain ⟨H',c,k,q⟩:=x
 exact ⟨H',c,K.trans k,q⟩
theorem plain_true {e:Expr} {env:Env} {vs:List Str} {loc:Loc} {H:Hp} {A:Around} {s:Shared} {Q:Bool->Hp->Prop} {X:Nat->Hp->Prop}
  (he:isTrue e env (eval e env)=(do let v <-eval e env;standAt e.pos;holding [v] (truthy v)))
  (h:wpAny (model prog w) A (eval e env) (EPost B env vs loc H s (fun d H'=>KB d fun b=>Q b H')) (EExc B env vs loc H s X) s) :
  wpAny (model prog w) A (isTrue e env (eval e env)) (TPost B env vs loc H s Q) (EExc B env vs loc H s X) s:=by
 refine wpAny_isTrue_value (wpAny_mono h (fun v s1 hp=>?_) fun _ _ q=>q) he
 obtain ⟨d,H1,r,c,k,b,rfl,hq⟩:=hp
 exact truthy_rep r ⟨H1,c,k,hq⟩
theorem snd_lit (hB:BOk prog w B T) (d:D):Snd prog w B T n (.lit d):=by
 intro e sc env vs loc H A s hc hsc a c
 refine inv_lit hc (fun cst k pos hc=>?_) fun x pos h1 h2 h3=>?_
 ·have main:∀(Q:D->Hp->Prop) (X:Nat->Hp->Prop),Q d H->wpAny (model prog w) A (eval (.Constant cst k pos) env) (EPost B env vs loc H s Q) (EExc B env vs loc H s X) s:=by
   intro Q X hq
   have same:∀(v:Value) (tk:Nat),Rep B s.heap d v->EPost B env vs loc H s Q v { s with toks:=tk }:=fun v tk r=>EPost.lift .refl c (post_same c.hp c.base r hq rfl)
   revert same
   refine inv_litOk hc ?_ (fun b=>?_) (fun i=>?_) fun x h2 h3=>?_
   ·exact fun same _ _ _=>same _ s.toks rep_none
   ·exact fun same _ _ _=>same _ s.toks rep_bool
   ·exact fun same _ _ _=>same _ _ rep_int
   ·exact fun same _ _ _=>same _ _ (by simp only [Rep];exact ⟨h2,h3,_,rfl⟩)
  exact ⟨main,fun Q X h=>plain_true rfl (main _ X h)⟩
 ·have main:∀(Q:D->Hp->Prop) (X:Nat->Hp->Prop),Q d H->wpAny (model prog w) A (eval (.Name x pos) env) (EPost B env vs loc H s Q) (EExc B env vs loc H s X) s:=by
   intro Q X hq
   have:∃v,GlobV B x v/\Rep B s.heap d v:=by
    unfold globOk at h2
    split at h2
    ·rename_i d' hd'
     obtain ⟨v,hv,r⟩:=hB.const x d' hd'
     rw [<-sameD_eq h2]
     exact ⟨v,Or.inl hv,r.pres (.grow c.base)⟩
    ·split at h2
     ·rename_i k hk
      rw [<-sameD_eq h2]
      exact ⟨_,(hB.cls x k hk).1,rep_cls (hB.cls x k hk).2⟩
     ·cases h2
   obtain ⟨v,hv,r⟩:=this
   exact load_glob hB (hsc.glob x h1) h3 c hv (EPost.lift .refl c (post_same c.hp c.base r hq rfl))
  exact ⟨main,fun Q X h=>plain_true rfl (main _ X h)⟩
theorem snd_var (i:Nat):Snd prog w B T n (.var i):=by
 intro e sc env vs loc H A s hc hsc a c
 refine inv_var hc fun x pos h1 h2 h3=>?_
 have main:∀(Q:D->Hp->Prop) (X:Nat->Hp->Prop),OD (lget loc i) H Q->wpAny (model prog w) A (eval (.Name x pos) env) (EPost B env vs loc H s Q) (EExc B env vs loc H s X) s:=fun Q X ⟨d,hd,hq⟩=>
  wpAny_Name (load_var (hsc.var x h1) (eq_of_beq h2) h3 c hd fun v r=>EPost.lift .refl c (post_same c.hp c.base r hq rfl)) (name_debug h3)
 exact ⟨main,fun Q X h=>plain_true rfl (main _ X h)⟩
theorem snd_bin {o:Op} {a b:Ex} (ha:Snd prog w B T n a) (hb:Snd prog w B T n b):Snd prog w B T n (.bin o a b):=by
 intro e sc env vs loc H A s hc hsc aok c
 refine inv_bin hc fun l o' r p ho h1 h2=>?_
 have main:∀(Q:D->Hp->Prop) (X:Nat->Hp->Prop),vE B.ns (CallS prog w B n) X (.bin o a b) loc H Q->wpAny (model prog w) A (eval (.BinOp l o' r p) env) (EPost B env vs loc H s Q) (EExc B env vs loc H s X) s:=by
  intro Q X h
  refine wpAny_BinOp (wpAny_mono ((ha _ sc env vs loc H A s h1 hsc aok c).1 _ X h) (fun v s1 hp=>?_) fun _ _ q=>q)
  obtain ⟨d,H1,r1,c1,k1,q1⟩:=hp
  refine wpAny_mono ((hb _ sc env vs loc H1 A s1 h2 hsc (aok.keep c.hp k1) c1).1 _ X q1) (fun u s2 hp2=>?_) fun _ _ q=>q.from k1
  obtain ⟨d2,H2,r2,c2,k2,q2⟩:=hp2
  exact wpAny_mono (bin_sound ho q2 (r1.keep c1.hp k2) r2 c2.hp c2.base) (fun _ _ hp=>EPost.lift (k1.trans k2) c2 hp) fun _ _ q=>q
 exact ⟨main,fun Q X h=>plain_true rfl (main _ X h)⟩
theorem snd_neg {a:Ex} (ha:Snd prog w B T n a):Snd prog w B T n (.neg a):=by
 intro e sc env vs loc H A s hc hsc aok c
 refine inv_neg hc fun x pos hc=>?_
 have main:∀(Q:D->Hp->Prop) (X:Nat->Hp->Prop),vE B.ns (CallS prog w B n) X (.neg a) loc H Q->wpAny (model prog w) A (eval (.UnaryOp .USub x pos) env) (EPost B env vs loc H s Q) (EExc B env vs loc H s X) s:=by
  intro Q X h
  refine wpAny_UnaryOp (wpAny_mono ((ha _ sc env vs loc H A s hc hsc aok c).1 _ X h) (fun v s1 hp=>?_) fun _ _ q=>q)
  obtain ⟨d,H1,r1,c1,k1,i,rfl,q1⟩:=hp
  simp only [Rep] at r1
  obtain ⟨t,rfl⟩:=r1
  exact P.neg_int (EPost.lift k1 c1 (post_same c1.hp c1.base (by simp only [Rep];exact ⟨_,rfl⟩) q1 rfl))
 exact ⟨main,fun Q X h=>plain_true rfl (main _ X h)⟩
theorem snd_not {a:Ex} (ha:Snd prog w B T n a):Snd prog w B T n (.not a):=by
 intro e sc env vs loc H A s hc hsc aok c
 refine inv_not hc fun x pos hc=>?_
 refine ⟨fun Q X h=>?_,fun Q X h=>?_⟩
 ·
  refine wpAny_UnaryOp (wpAny_mono ((ha _ sc env vs loc H A s hc hsc aok c).1 _ X h) (fun v s1 hp=>?_) fun _ _ q=>q)
  obtain ⟨d,H1,r1,c1,k1,b,rfl,q1⟩:=hp
  exact not_of (truthy_rep r1 (EPost.lift k1 c1 (post_same c1.hp c1.base (by simp only [Rep]) q1 rfl)))
 ·
  refine wpAny_isTrue_Not ?_
  refine wpAny_mono ((ha _ sc env vs loc H A s hc hsc aok c).2 (fun b H'=>KB (.bool !b) fun b'=>Q b' H') X h) (fun t s1 hp=>?_) fun _ _ q=>q
  obtain ⟨H1,c1,k1,b',hb',q⟩:=hp
  cases hb'
  exact ⟨H1,c1,k1,q⟩
theorem cmp_frame {o:Cm} {o':CmpOp} {env:Env} {vs:List Str} {loc:Loc} {H:Hp} {A:Around} {s:Shared} {x y:D} {a b:Value} {r:Bool} {Q:Value->Shared->Prop} {E:Value->Shared->Prop} (hB:BOk prog w B T)
  (ho:cmOk o o'=true) (h:vCmp o x y H=some r) (hx:Rep B s.heap x a) (hy:Rep B s.heap y b) (c:Conc B env vs loc H s) (aok:AOk B A n H s.heap) (hq:Q (.bool r) s):wpAny (model prog w) A (compareOp o' a b) Q E s:=
 cmp_sound ho h hx hy c.hp hB.tyne aok.cl hq
theorem snd_cmp (hB:BOk prog w B T) {o:Cm} {a b:Ex} (ha:Snd prog w B T n a) (hb:Snd prog w B T n b):Snd prog w B T n (.cmp o a b):=by
 intro e sc env vs loc H A s hc hsc aok c
 refine inv_cmp hc fun l o' r' pos ho h1 h2=>?_
 ·
  refine ⟨fun Q X h=>?_,fun Q X h=>?_⟩
  ·
   refine wpAny_Compare1 (wpAny_mono ((ha _ sc env vs loc H A s h1 hsc aok c).1 _ X h) (fun v s1 hp=>?_) fun _ _ q=>q) (chk_marks h2)
   obtain ⟨d,H1,r1,c1,k1,q1⟩:=hp
   refine wpAny_mono ((hb _ sc env vs loc H1 A s1 h2 hsc (aok.keep c.hp k1) c1).1 _ X q1) (fun u s2 hp2=>?_) fun _ _ q=>q.from k1
   obtain ⟨d2,H2,r2,c2,k2,rr,hrr,q2⟩:=hp2
   exact cmp_frame hB ho hrr (r1.keep c1.hp k2) r2 c2 ((aok.keep c.hp k1).keep c1.hp k2) (EPost.lift (k1.trans k2) c2 (post_same c2.hp c2.base (by simp only [Rep]) q2 rfl))
  ·
   refine wpAny_isTrue_Compare1 (wpAny_mono ((ha _ sc env vs loc H A s h1 hsc aok c).1 _ X h) (fun v s1 hp=>?_) fun _ _ q=>q) (chk_marks h2)
   obtain ⟨d,H1,r1,c1,k1,q1⟩:=hp
   refine wpAny_mono ((hb _ sc env vs loc H1 A s1 h2 hsc (aok.keep c.hp k1) c1).1 _ X q1) (fun u s2 hp2=>?_) fun _ _ q=>q.from k1
   obtain ⟨d2,H2,r2,c2,k2,rr,hrr,b',hb',q2⟩:=hp2
   cases hb'
   exact cmp_frame hB ho hrr (r1.keep c1.hp k2) r2 c2 ((aok.keep c.hp k1).keep c1.hp k2) (wpAny_truthy_bool ⟨H2,c2,k1.trans k2,q2⟩)
theorem snd_cmp2 (hB:BOk prog w B T) {o p:Cm} {a b d:Ex} (ha:Snd prog w B T n a) (hb:Snd prog w B T n b) (hd:Snd prog w B T n d):Snd prog w B T n (.cmp2 o p a b d):=by
 intro e sc env vs loc H A s hc hsc aok c
 refine inv_cmp2 hc fun l o' p' r' q' pos ho hp' h1 h2 h3=>?_
 ·
  refine ⟨fun Q X h=>?_,fun Q X h=>?_⟩
  ·
   refine compare2 (chk_marks h3) (wpAny_mono ((ha _ sc env vs loc H A s h1 hsc aok c).1 _ X h) (fun v s1 hp=>?_) fun _ _ q=>q)
   obtain ⟨d1,H1,r1,c1,k1,q1⟩:=hp
   have a1:=aok.keep c.hp k1
   refine wpAny_mono ((hb _ sc env vs loc H1 A s1 h2 hsc a1 c1).1 _ X q1) (fun u s2 hp2=>?_) fun _ _ q=>q.from k1
   obtain ⟨d2,H2,r2,c2,k2,rr,hrr,q2⟩:=hp2
   have a2:=a1.keep c1.hp k2
   refine cmp_frame hB ho hrr (r1.keep c1.hp k2) r2 c2 a2 (wpAny_truthy_bool ?_)
   cases rr with
   | false=>simp only [Bool.false_eq_true,if_false] at q2 ⊢;exact EPost.lift (k1.trans k2) c2 (post_same c2.hp c2.base (by simp only [Rep]) q2 rfl)
   | true=>
    simp only [if_true] at q2 ⊢
    refine wpAny_mono ((hd _ sc env vs loc H2 A s2 h3 hsc a2 c2).1 _ X q2) (fun t s3 hp3=>?_) fun _ _ q=>q.from (k1.trans k2)
    obtain ⟨d3,H3,r3,c3,k3,rr',hrr',q3⟩:=hp3
    exact cmp_frame hB hp' hrr' (r2.keep c2.hp k3) r3 c3 (a2.keep c2.hp k3) (EPost.lift ((k1.trans k2).trans k3) c3 (post_same c3.hp c3.base (by simp only [Rep]) q3 rfl))
  ·
   refine testcompare2 (chk_marks h3) (wpAny_mono ((ha _ sc env vs loc H A s h1 hsc aok c).1 _ X h) (fun v s1 hp=>?_) fun _ _ q=>q)
   obtain ⟨d1,H1,r1,c1,k1,q1⟩:=hp
   have a1:=aok.keep c.hp k1
   refine wpAny_mono ((hb _ sc env vs loc H1 A s1 h2 hsc a1 c1).1 _ X q1) (fun u s2 hp2=>?_) fun _ _ q=>q.from k1
   obtain ⟨d2,H2,r2,c2,k2,rr,hrr,q2⟩:=hp2
   have a2:=a1.keep c1.hp k2
   refine cmp_frame hB ho hrr (r1.keep c1.hp k2) r2 c2 a2 (wpAny_truthy_bool ?_)
   cases rr with
   | false=>
    simp only [Bool.false_eq_true,if_false] at q2 ⊢
    obtain ⟨b',hb',q2⟩:=q2
    cases hb'
    exact ⟨H2,c2,k1.trans k2,q2⟩
   | true=>
    simp only [if_true] at q2 ⊢
    refine wpAny_mono ((hd _ sc env vs loc H2 A s2 h3 hsc a2 c2).1 _ X q2) (fun t s3 hp3=>?_) fun _ _ q=>q.from (k1.trans k2)
    obtain ⟨d3,H3,r3,c3,k3,rr',hrr',b',hb',q3⟩:=hp3
    cases hb'
    exact cmp_frame hB hp' hrr' (r2.keep c2.hp k3) r3 c3 (a2.keep c2.hp k3) (wpAny_truthy_bool ⟨H3,c3,(k1.trans k2).trans k3,q3⟩)
theorem snd_and {a b:Ex} (ha:Snd prog w B T n a) (hb:Snd prog w B T n b):Snd prog w B T n (.and a b):=by
 intro e sc env vs loc H A s hc hsc aok c
 refine inv_and hc fun x y r pos h1 h2=>?_
 ·
  refine ⟨fun Q X h=>?_,fun Q X h=>?_⟩
  ·
   show wpAny (model prog w) A (boolOp pos .And (eval x env::eval y env::evalEach r env)) _ _ s
   refine boolOp_and (wpAny_mono ((ha _ sc env vs loc H A s h1 hsc aok c).1 _ X h) (fun v s1 hp=>?_) fun _ _ q=>q)
   obtain ⟨d1,H1,r1,c1,k1,rr,rfl,q1⟩:=hp
   refine truthy_rep r1 ?_
   cases rr with
   | false=>simp only [Bool.false_eq_true,if_false] at q1 ⊢;exact EPost.lift k1 c1 (post_same c1.hp c1.base r1 q1 rfl)
   | true=>
    simp only [if_true] at q1 ⊢
    cases r with
    | nil=>exact wpAny_mono ((hb _ sc env vs loc H1 A s1 h2 hsc (aok.keep c.hp k1) c1).1 _ X q1) (fun _ _ hp=>hp.from k1) fun _ _ q=>q.from k1
    | cons z zs=>exact wpAny_mono ((hb _ sc env vs loc H1 A s1 h2 hsc (aok.keep c.hp k1) c1).1 _ X q1) (fun _ _ hp=>hp.from k1) fun _ _ q=>q.from k1
  ·
   refine wpAny_isTrue_BoolOp (wpAny_allTrue_And_cons ?_)
   refine wpAny_mono ((ha _ sc env vs loc H A s h1 hsc aok c).2 (fun r H1=>if r=true then vE B.ns (CallS prog w B n) X b loc H1 (fun d H'=>KB d fun b=>Q b H') else KB (.bool false) fun b=>Q b H1) X h) (fun t s1 hp=>?_) fun _ _ q=>q
   obtain ⟨H1,c1,k1,q1⟩:=hp
   cases t with
   | false=>
    simp only [Bool.false_eq_true,if_false] at q1 ⊢
    obtain ⟨b',hb',q1⟩:=q1
    cases hb'
    exact ⟨H1,c1,k1,q1⟩
   | true=>
    simp only [if_true] at q1 ⊢
    cases r with
    | nil=>
     refine wpAny_allTrue_And_cons (wpAny_mono ((hb _ sc env vs loc H1 A s1 h2 hsc (aok.keep c.hp k1) c1).2 _ X q1) (fun t2 s2 hp2=>?_) fun _ _ q=>q.from k1)
     cases t2 with
     | false=>exact hp2.from k1
     | true=>exact wpAny_pure (hp2.from k1)
    | cons z zs=>
     have:=(hb _ sc env vs loc H1 A s1 h2 hsc (aok.keep c.hp k1) c1).2 _ X q1
     exact wpAny_mono this (fun t2 s2 hp2=>hp2.from k1) fun _ _ q=>q.from k1
theorem snd_or {a b:Ex} (ha:Snd prog w B T n a) (hb:Snd prog w B T n b):Snd prog w B T n (.or a b):=by
 intro e sc env vs loc H A s hc hsc aok c
 refine inv_or hc fun x y r pos h1 h2=>?_
 ·
  refine ⟨fun Q X h=>?_,fun Q X h=>?_⟩
  ·
   show wpAny (model prog w) A (boolOp pos .Or (eval x env::eval y env::evalEach r env)) _ _ s
   refine boolOp_or (wpAny_mono ((ha _ sc env vs loc H A s h1 hsc aok c).1 _ X h) (fun v s1 hp=>?_) fun _ _ q=>q)
   obtain ⟨d1,H1,r1,c1,k1,rr,rfl,q1⟩:=hp
   refine truthy_rep r1 ?_
   cases rr with
   | true=>simp only [if_true] at q1 ⊢;exact EPost.lift k1 c1 (post_same c1.hp c1.base r1 q1 rfl)
   | false=>
    simp only [Bool.false_eq_true,if_false] at q1 ⊢
    cases r with
    | nil=>exact wpAny_mono ((hb _ sc env vs loc H1 A s1 h2 hsc (aok.keep c.hp k1) c1).1 _ X q1) (fun _ _ hp=>hp.from k1) fun _ _ q=>q.from k1
    | cons z zs=>exact wpAny_mono ((hb _ sc env vs loc H1 A s1 h2 hsc (aok.keep c.hp k1) c1).1 _ X q1) (fun _ _ hp=>hp.from k1) fun _ _ q=>q.from k1
  ·
   refine wpAny_isTrue_BoolOp (wpAny_allTrue_Or_cons ?_)
   refine wpAny_mono ((ha _ sc env vs loc H A s h1 hsc aok c).2 (fun r H1=>if r=true then KB (.bool true) fun b=>Q b H1 else vE B.ns (CallS prog w B n) X b loc H1 (fun d H'=>KB d fun b=>Q b H')) X h) (fun t s1 hp=>?_) fun _ _ q=>q
   obtain ⟨H1,c1,k1,q1⟩:=hp
   cases t with
   | true=>
    simp only [if_true] at q1 ⊢
    obtain ⟨b',hb',q1⟩:=q1
    cases hb'
    exact ⟨H1,c1,k1,q1⟩
   | false=>
    simp only [Bool.false_eq_true,if_false] at q1 ⊢
    cases r with
    | nil=>
     refine wpAny_allTrue_Or_cons (wpAny_mono ((hb _ sc env vs loc H1 A s1 h2 hsc (aok.keep c.hp k1) c1).2 _ X q1) (fun t2 s2 hp2=>?_) fun _ _ q=>q.from k1)
     cases t2 with
     | true=>exact hp2.from k1
     | false=>exact wpAny_pure (hp2.from k1)
    | cons z zs=>
     have:=(hb _ sc env vs loc H1 A s1 h2 hsc (aok.keep c.hp k1) c1).2 _ X q1
     exact wpAny_mono this (fun t2 s2 hp2=>hp2.from k1) fun _ _ q=>q.from k1
end
end Mine
set_option Elab.async false
namespace Mine
open PySem PyProof.Rows
section
variable {prog:Program} {w:World} {B:Bs} {T:Tab} {n:Nat}
theorem chkEs_at:∀{es:List Ex} {xs:List Expr} {sc:List (Str×NameKind)} {vs:List Str},chkEs T sc vs es xs=true->es.length=xs.length/\∀(i:Nat) (e:Ex) (x:Expr),es[i]?=some e->xs[i]?=some x->chkE T sc vs e x=true
 | [],[],_,_,_=>⟨rfl,fun i e x h _=>by simp at h⟩
 | [],_::_,_,_,h=>absurd h Bool.false_ne_true
 | _::_,[],_,_,h=>absurd h Bool.false_ne_true
 | e::es,x::xs,sc,vs,h=>by
  replace h:=Bool.and_eq_true_iff.mp h
  obtain ⟨h1,h2⟩:=chkEs_at h.2
  refine ⟨by simp [h1],fun i e' x' he hx=>?_⟩
  cases i with
  | zero=>simp at he hx;subst he;subst hx;exact h.1
  | succ i=>exact h2 i e' x' (by simpa using he) (by simpa using hx)
theorem args_sound {es:List Ex} {xs:List Expr} {sc:List (Str×NameKind)} {env:Env} {vs:List Str} {loc:Loc} {H:Hp} {A:Around} {s:Shared} {Q:List D->Hp->Prop} {X:Nat->Hp->Prop} (pos:Pos) (hs:∀e∈es,Snd prog w B T n e)
  (hc:chkEs T sc vs es xs=true) (hsc:ScOk sc env) (aok:AOk B A n H s.heap) (c:Conc B env vs loc H s) (h:vEs B.ns (CallS prog w B n) X es loc H Q) :
  wpAny (model prog w) A (spliced (backTo pos (starEach xs env))) (fun us s'=>EsPost B env vs loc H s Q us s'/\us.length=xs.length) (EExc B env vs loc H s X) s:=by
 obtain ⟨hl,hat⟩:=chkEs_at hc
 rw [star_plain pos hc]
 exact spliced_sound (fun i e x h1 h2 A' s' H' Q' hv a' c'=>(hs e (List.mem_of_getElem? h1) x sc env vs loc H' A' s' (hat i e x h1 h2) hsc a' c').1 Q' X hv) hl h aok c
theorem evalArgs_list {M:Model} {A:Around} {E:Value->Shared->Prop} {s:Shared} {f:Value} {env:Env} {Q:Args->Shared->Prop}:∀(xs:List Expr),
  wpAny M A (spliced (xs.map fun e=>(false,eval e env))) (fun vs s'=>Q ⟨vs,[]⟩ s') E s->wpAny M A (evalArgs f true (xs.map fun e=>(false,eval e env)) []) Q E s
 | [],h=>by
  unfold evalArgs
  show wpAny M A (spliced [] >>= _) Q E s
  refine wpAny_bind (wpAny_mono h (fun vs s' h'=>?_) fun _ _ x=>x)
  refine wpAny_holding ?_
  exact wpAny_bind (wpAny_pure (wpAny_bind (wpAny_pure (wpAny_pure h'))))
 | x::xs,h=>Calls.evalArgs_plain h
theorem callWith_nonref {M:Model} {A:Around} {E:Value->Shared->Prop} {s:Shared} {pos:Pos} {f:Value} {first:List Value} {args:List (Bool×Sem Value)} {Q:Value->Shared->Prop} (hf:keeperOf f=pure .machine) (hplain:args.any (·.1)=false)
  (h:wpAny M A (evalArgs f true args []) (fun a s₁=>wpAny M A (call f (first++a.pos) a.kw) Q E s₁) E s):wpAny M A (callWith pos f first args []) Q E s:=by
 unfold callWith
 refine wpAny_bind (wpAny_holding (wpAny_mono h (fun a s₁ h₁=>wpAny_bind (wpAny_standAt ?_)) fun _ _ x=>x))
 simp only [hplain,List.any_nil,Bool.or_false]
 refine wpAny_bind (wpAny_of_eq hf ?_)
 exact wpAny_bind (wpAny_mono h₁ (fun r s₂ hr=>wpAny_bind (wpAny_holding (wpAny_point (wpAny_pure hr)))) fun _ _ x=>x)
theorem plain_any {xs:List Expr} {env:Env}:(xs.map fun e=>(false,eval e env)).any (·.1)=false:=by
 induction xs with
 | nil=>rfl
 | cons x xs ih=>simp
theorem snd_tup {es:List Ex} (hs:∀e∈es,Snd prog w B T n e):Snd prog w B T n (.tup es):=by
 intro e sc env vs loc H A s hc hsc aok c
 refine inv_tup hc fun xs k pos hc1 hc2=>?_
 have main:∀(Q:D->Hp->Prop) (X:Nat->Hp->Prop),vE B.ns (CallS prog w B n) X (.tup es) loc H Q->wpAny (model prog w) A (eval (.Tuple xs k pos) env) (EPost B env vs loc H s Q) (EExc B env vs loc H s X) s:=by
  intro Q X h
  refine Tuple_ (wpAny_mono (args_sound pos hs hc1 hsc aok c h) (fun us s1 hp=>?_) fun _ _ q=>q)
  obtain ⟨⟨ds,H1,r1,c1,k1,q1⟩,hlen⟩:=hp
  have h1:=(chkEs_at hc1).1
  have h2:=r1.length
  have hsz:ds.length<=SZ:=by simp only [SZ];exact jk58 h2 hlen h1 hc2
  have hline:=SZ_le
  refine wpAny_newTuple ?_ (by exact jk59 h2 hsz hline)
  exact EPost.lift k1 c1 (post_grow c1.hp c1.base (push_keep _) (push_size_le _) (rep_newtuple (by simpa using r1) hsz) q1)
 exact ⟨main,fun Q X h=>plain_true rfl (main _ X h)⟩
theorem snd_list {es:List Ex} (hs:∀e∈es,Snd prog w B T n e):Snd prog w B T n (.list es):=by
 intro e sc env vs loc H A s hc hsc aok c
 refine inv_list hc fun xs pos hc1 hc2=>?_
 have main:∀(Q:D->Hp->Prop) (X:Nat->Hp->Prop),vE B.ns (CallS prog w B n) X (.list es) loc H Q->wpAny (model prog w) A (eval (.List xs pos) env) (EPost B env vs loc H s Q) (EExc B env vs loc H s X) s:=by
  intro Q X h
  refine List_ (wpAny_mono (args_sound pos hs hc1 hsc aok c h) (fun us s1 hp=>?_) fun _ _ q=>q)
  obtain ⟨⟨ds,H1,r1,c1,k1,q1⟩,hlen⟩:=hp
  have h1:=(chkEs_at hc1).1
  have h2:=r1.length
  have hsz:ds.length<=SZ:=by simp only [SZ];exact jk58 h2 hlen h1 hc2
  have hline:=SZ_le
  refine wpAny_newList ?_ (by exact jk59 h2 hsz hline)
  exact EPost.lift k1 c1 (post_newlist (tk:=s1.toks) c1.hp c1.base (by simpa using r1) hsz q1)
 exact ⟨main,fun Q X h=>plain_true rfl (main _ X h)⟩
theorem snd_call (hB:BOk prog w B T) {f:Nat} {es:List Ex} (hs:∀e∈es,Snd prog w B T n e):Snd prog w B T n (.call f es):=by
 intro e sc env vs loc H A s hc hsc aok c
 refine inv_call hc fun x p xs pos h1 h2 h3 h4=>?_
 ·
  have main:∀(Q:D->Hp->Prop) (X:Nat->Hp->Prop),vE B.ns (CallS prog w B n) X (.call f es) loc H Q->wpAny (model prog w) A (eval (.Call (.Name x p) xs [] pos) env) (EPost B env vs loc H s Q) (EExc B env vs loc H s X) s:=by
   intro Q X h
   obtain ⟨hg,o,fd,ho,hd⟩:=hB.fn x f h2
   refine wpAny_Call_NameR (load_glob hB (hsc.glob x h1) h4 c (Or.inl hg) ?_)
   refine Calls.callWith_function (o:=o) (fd:=fd) ?_
   have hargs:=args_sound pos hs h3 hsc aok c h
   rw [star_plain pos h3] at hargs ⊢
   refine evalArgs_list xs (wpAny_mono hargs (fun us s1 hp=>?_) fun _ _ q=>q)
   obtain ⟨⟨ds,H1,r1,c1,k1,q1⟩,_⟩:=hp
   refine ⟨⟨c1.base _ _ ho,hd⟩,?_⟩
   exact wpAny_mono (q1 A s1 us (aok.keep c.hp k1) c1.hp c1.base r1) (fun _ _ hp=>EPost.lift k1 c1 hp) fun _ _ hp=>EExc.lift k1 c1 hp
  exact ⟨main,fun Q X h=>plain_true rfl (main _ X h)⟩
theorem biOk_val {b:BI} {x:Str} {k:Nat} (h:biOk b x k=true):∃nm,(nm,bval b)∈bltOf/\x=Str.ofString nm/\keeperOf (bval b)=pure .machine:=by
 refine and3 h fun h1 h2 _=>?_
 refine ⟨bname b,?_,eq_of_beq h2,?_⟩
 ·cases b <;> first | exact absurd h1 Bool.false_ne_true | exact .head _ | exact .tail _ (.head _) | exact .tail _ (.tail _ (.head _)) | exact .tail _ (.tail _ (.tail _ (.head _))) | exact .tail _ (.tail _ (.tail _ (.tail _ (.head _)))) |
   exact .tail _ (.tail _ (.tail _ (.tail _ (.tail _ (.head _))))) | exact .tail _ (.tail _ (.tail _ (.tail _ (.tail _ (.tail _ (.head _)))))) | exact .tail _ (.tail _ (.tail _ (.tail _ (.tail _ (.tail _ (.tail _ (.head _)))))))
 ·cases b <;> first | exact absurd h1 Bool.false_ne_true | rfl
theorem snd_bi (hB:BOk prog w B T) {b:BI} {es:List Ex} (hs:∀e∈es,Snd prog w B T n e):Snd prog w B T n (.bi b es):=by
 intro e sc env vs loc H A s hc hsc aok c
 refine inv_bi hc fun x p xs pos h1 h2 h3 h4=>?_
 ·
  have main:∀(Q:D->Hp->Prop) (X:Nat->Hp->Prop),vE B.ns (CallS prog w B n) X (.bi b es) loc H Q->wpAny (model prog w) A (eval (.Call (.Name x p) xs [] pos) env) (EPost B env vs loc H s Q) (EExc B env vs loc H s X) s:=by
   intro Q X h
   obtain ⟨nm,hm,rfl,hk⟩:=biOk_val h2
   refine wpAny_Call_NameR (load_glob hB (hsc.glob _ h1) h4 c (hB.blt nm _ hm) ?_)
   have hargs:=args_sound pos hs h3 hsc aok c h
   rw [star_plain pos h3] at hargs ⊢
   refine callWith_nonref hk plain_any (evalArgs_list xs (wpAny_mono hargs (fun us s1 hp=>?_) fun _ _ q=>q))
   obtain ⟨⟨ds,H1,r1,c1,k1,q1⟩,_⟩:=hp
   exact wpAny_mono (bi_sound hB q1 r1 c1.hp c1.base (aok.keep c.hp k1).hand) (fun _ _ hp=>EPost.lift k1 c1 hp) fun _ _ q=>q
  exact ⟨main,fun Q X h=>plain_true rfl (main _ X h)⟩
theorem snd_item (hB:BOk prog w B T) {a i:Ex} (ha:Snd prog w B T n a) (hi:Snd prog w B T n i):Snd prog w B T n (.item a i):=by
 intro e sc env vs loc H A s hc hsc aok c
 refine inv_item hc fun v sl pos h0 h1 h2=>?_
 have main:∀(Q:D->Hp->Prop) (X:Nat->Hp->Prop),vE B.ns (CallS prog w B n) X (.item a i) loc H Q->wpAny (model prog w) A (eval (.Subscript v sl pos) env) (EPost B env vs loc H s Q) (EExc B env vs loc H s X) s:=by
  intro Q X h
  refine Subscript_ (wpAny_mono ((ha _ sc env vs loc H A s h1 hsc aok c).1 _ X h) (fun v1 s1 hp=>?_) fun _ _ q=>q)
  obtain ⟨d,H1,r1,c1,k1,q1⟩:=hp
  refine wpAny_mono ((hi _ sc env vs loc H1 A s1 h2 hsc (aok.keep c.hp k1) c1).1 _ X q1) (fun u s2 hp2=>?_) fun _ _ q=>q.from k1
  obtain ⟨d2,H2,r2,c2,k2,q2⟩:=hp2
  exact wpAny_mono (item_sound T hB h0 q2 (r1.keep c1.hp k2) r2 c2.hp c2.base) (fun _ _ hp=>EPost.lift (k1.trans k2) c2 hp) fun _ _ q=>q
 exact ⟨main,fun Q X h=>plain_true rfl (main _ X h)⟩
theorem part_sound {x:Ex} {o:Option Expr} {sc:List (Str×NameKind)} {env:Env} {vs:List Str} {loc:Loc} {H:Hp} {A:Around} {s:Shared} {Q:D->Hp->Prop} {X:Nat->Hp->Prop}
  (hc:partOk T sc vs x o=true) (hx:Snd prog w B T n x) (hsc:ScOk sc env) (aok:AOk B A n H s.heap) (c:Conc B env vs loc H s) (h:vE B.ns (CallS prog w B n) X x loc H Q) :
  wpAny (model prog w) A (evalPart o env) (EPost B env vs loc H s Q) (EExc B env vs loc H s X) s:=by
 cases o with
 | none=>
  obtain rfl:=noLit_eq hc
  show wpAny _ _ (pure Value.none) _ _ _
  exact wpAny_pure (EPost.lift .refl c (post_same c.hp c.base (by simp only [Rep]) h rfl))
 | some e=>exact (hx _ sc env vs loc H A s hc hsc aok c).1 _ X h
theorem snd_slice {a lo hi:Ex} (ha:Snd prog w B T n a) (hlo:Snd prog w B T n lo) (hhi:Snd prog w B T n hi):Snd prog w B T n (.slice a lo hi):=by
 intro e sc env vs loc H A s hc hsc aok c
 refine inv_slice hc fun v l u p pos h1 h2 h3=>?_
 ·
  have main:∀(Q:D->Hp->Prop) (X:Nat->Hp->Prop),vE B.ns (CallS prog w B n) X (.slice a lo hi) loc H Q->wpAny (model prog w) A (eval (.Subscript v (.Slice l u none p) pos) env) (EPost B env vs loc H s Q) (EExc B env vs loc H s X) s:=by
   intro Q X h
   refine Subscript_ (wpAny_mono ((ha _ sc env vs loc H A s h1 hsc aok c).1 _ X h) (fun v1 s1 hp=>?_) fun _ _ q=>q)
   obtain ⟨d,H1,r1,c1,k1,q1⟩:=hp
   have a1:=aok.keep c.hp k1
   refine wpAny_Slice (wpAny_mono (part_sound h2 hlo hsc a1 c1 q1) (fun v2 s2 hp2=>?_) fun _ _ q=>q.from k1)
   obtain ⟨d2,H2,r2,c2,k2,q2⟩:=hp2
   have a2:=a1.keep c1.hp k2
   refine wpAny_mono (part_sound h3 hhi hsc a2 c2 q2) (fun v3 s3 hp3=>?_) fun _ _ q=>q.from (k1.trans k2)
   obtain ⟨d3,H3,r3,c3,k3,q3⟩:=hp3
   show wpAny _ _ (pure Value.none) _ _ _
   refine wpAny_pure ?_
   exact wpAny_mono (slice_sound q3 ((r1.keep c1.hp k2).keep c2.hp k3) (r2.keep c2.hp k3) r3 c3.hp c3.base) (fun _ _ hp=>EPost.lift ((k1.trans k2).trans k3) c3 hp) fun _ _ q=>q
  exact ⟨main,fun Q X h=>plain_true rfl (main _ X h)⟩
end
end Mine
set_option Elab.async false
namespace Mine
open PySem PyProof.Rows
section
variable {prog:Program} {w:World} {B:Bs} {T:Tab} {n:Nat}
theorem snd_zipl (hB:BOk prog w B T) {a b:Ex} (ha:Snd prog w B T n a) (hb:Snd prog w B T n b):Snd prog w B T n (.zipl a b):=by
 intro e sc env vs loc H A s hc hsc aok c
 refine inv_zipl hc fun np np2 u v p p2 g1 g2 g3 g4 c1 c2=>?_
 have main:∀(Q:D->Hp->Prop) (X:Nat->Hp->Prop),vE B.ns (CallS prog w B n) X (.zipl a b) loc H Q ->
   wpAny (model prog w) A (eval (.Call (.Name (Str.ofString "list") np) [.Call (.Name (Str.ofString "zip") np2) [u,v] [] p2] [] p) env) (EPost B env vs loc H s Q) (EExc B env vs loc H s X) s:=by
  intro Q X h
  refine wpAny_Call_NameR (load_glob hB (hsc.glob _ g1) g2 c (hB.blt "list" (.type "list") (.tail _ (.tail _ (.tail _ (.tail _ (.tail _ (.tail _ (.tail _ (.head _))))))))) ?_)
  show wpAny (model prog w) A (callWith p (.type "list") [] [(false,eval (.Call (.Name (Str.ofString "zip") np2) [u,v] [] p2) env)] []) _ _ s
  refine callWith_nonref rfl rfl (evalArgs_list [.Call (.Name (Str.ofString "zip") np2) [u,v] [] p2] (Calls.spliced_cons ?_))
  refine wpAny_Call_NameR (load_glob hB (hsc.glob _ g3) g4 c (hB.blt "zip" (.type "zip") (.tail _ (.tail _ (.tail _ (.tail _ (.tail _ (.tail _ (.tail _ (.tail _ (.head _)))))))))) ?_)
  have h3:chkEs T sc vs [a,b] [u,v]=true:=by
   show (chkE T sc vs a u&&(chkE T sc vs b v&&true))=true
   rw [c1,c2];rfl
  have hargs:=args_sound (es:=[a,b]) p2 (fun e he=>by
   rcases List.mem_cons.mp he with rfl | he
   ·exact ha
   ·rw [List.mem_singleton.mp he];exact hb) h3 hsc aok c (Q:=fun ds H2=>k2 (fun x y=>kt (fun l=>kt (fun m=>ZP l m H2 Q) y) x) ds) h
  rw [star_plain p2 h3] at hargs ⊢
  refine callWith_nonref rfl plain_any (evalArgs_list [u,v] (wpAny_mono hargs (fun us s1 hp=>?_) fun _ _ q=>q))
  obtain ⟨⟨ds,H1,r1,c1',k1,q1⟩,_⟩:=hp
  revert r1
  refine inv_k2 q1 fun x y q1=>?_
  refine inv_kt q1 fun l q1=>?_
  refine inv_kt q1 fun m q1=>?_
  intro r1
  obtain ⟨v1,v2,rfl,r1,r2⟩:=r1.two
  obtain ⟨z1,z2,z3,hq⟩:=q1
  refine wpAny_mono (zip_sound r1 r2 c1'.hp c1'.base (aok.keep c.hp k1).hand z1 z2 z3 hq) (fun zv s2 hz=>Calls.spliced_nil ?_) fun _ _ q=>q
  exact wpAny_mono hz (fun _ _ hp=>EPost.lift k1 c1' hp) fun _ _ q=>q
 exact ⟨main,fun Q X h=>plain_true rfl (main _ X h)⟩
end
end Mine
set_option Elab.async false
namespace Mine
open PySem PyProof.Rows
theorem lookup_zip_some:∀{ns:List Str} {vs:List Value},vs.length=ns.length->∀n∈ns,∃v,(ns.zip vs).lookup n=some v
 | [],_,_,n,h=>by cases h
 | m::ns,[],hl,n,h=>by simp at hl
 | m::ns,v::vs,hl,n,h=>by
  rw [List.zip_cons_cons,List.lookup_cons]
  cases hb:n==m with
  | true=>exact ⟨v,rfl⟩
  | false=>
   refine lookup_zip_some (by simpa using hl) n ?_
   rcases List.mem_cons.mp h with rfl | h
   ·simp at hb
   ·exact h
theorem filterMap_zip:∀{ns:List Str} {vs:List Value} (pre:List (Str×Value)),vs.length=ns.length->ns.Nodup->(∀n∈ns,pre.lookup n=none) ->
  ns.filterMap (fun n=>((pre++ns.zip vs).lookup n).map (n,·))=ns.zip vs
 | [],_,_,_,_,_=>by simp
 | m::ns,[],_,hl,_,_=>by simp at hl
 | m::ns,v::vs,pre,hl,hn,hp=>by
  have e:(pre++(m::ns).zip (v::vs)).lookup m=some v:=by
   rw [List.zip_cons_cons,List.lookup_append,hp m (by simp)]
   simp [List.lookup_cons]
  rw [List.filterMap_cons,e]
  simp only [Option.map_some,List.zip_cons_cons]
  congr 1
  have hn':=List.nodup_cons.mp hn
  have:=filterMap_zip (ns:=ns) (vs:=vs) (pre++[(m,v)]) (by simpa using hl) hn'.2 (fun n hm=>by
   rw [List.lookup_append,hp n (by simp [hm])]
   have:(n==m)=false:=by simp;rintro rfl;exact hn'.1 hm
   simp [List.lookup_cons,this])
  simpa using this
theorem filter_none {ns:List Str} {l:List (Str×Value)} (h:∀n∈ns,∃v,l.lookup n=some v):ns.filter (fun n=>(l.lookup n).isNone)=[]:=by
 rw [List.filter_eq_nil_iff]
 intro n hn
 obtain ⟨v,hv⟩:=h n hn
 simp [hv]
theorem bind_pos {fd:FuncData} {as:List Arg} {vals:List Value} (hp:fd.params={ posonlyargs:=[],args:=as,vararg:=none,kwonlyargs:=[],kw_defaults:=[],kwarg:=none,defaults:=[] }) (hd:fd.defaults=.none)
  (hn:(as.map (·.arg)).Nodup) (hl:vals.length=as.length):bindArgs fd ⟨vals,[]⟩=pure ((as.map (·.arg)).zip vals):=by
 have hl':vals.length=(as.map (·.arg)).length:=hl.trans (List.length_map ..).symm
 have h1:¬((decide (vals.length > (as.map (·.arg)).length)&&true)=true):=by rw [hl',decide_eq_false (Nat.lt_irrefl _)];decide
 have hdd:List.drop (([]:List Value).length - (as.map (·.arg)).length) ([]:List Value)=[]:=List.drop_nil
 have h2:¬((!(((as.map (·.arg)).take ((as.map (·.arg)).length - (List.drop (([]:List Value).length - (as.map (·.arg)).length) ([]:List Value)).length)).filter (fun n=>(((as.map (·.arg)).zip vals).lookup n).isNone)).isEmpty)=true):=by
  rw [hdd,List.length_nil,Nat.sub_zero,List.take_length,filter_none (lookup_zip_some hl')];decide
 have h3:=filterMap_zip (ns:=as.map (·.arg)) (vs:=vals) [] hl' hn (fun _ _=>rfl)
 obtain ⟨y1,y2,y3,y4,y5,y6,y7,y8,y9,y10,y11,y12,y13,y14,y15⟩:=fd
 have hp:y3=_:=hp
 have hd:y8=_:=hd
 subst hp hd
 refine (if_neg h1).trans ((if_neg h2).trans ?_)
 show (forIn (((as.map (·.arg)).drop _).zip (List.drop (([]:List Value).length - (as.map (·.arg)).length) ([]:List Value))) ((as.map (·.arg)).zip vals) _ >>= _)=_
 rw [hdd,List.zip_nil_right]
 exact congrArg (pure:_->Sem (List (Str×Value))) ((congrArg (List.filterMap _) (List.append_nil _)).trans h3)
end Mine
set_option Elab.async false
set_option maxRecDepth 100000
namespace Mine
open PySem PyProof.Rows
section
variable {prog:Program} {w:World} {B:Bs} {T:Tab} {n:Nat}
theorem base_plain {o:Expr} {name:Str} {env:Env} (h:notBare o=true):attributeBase o name env (eval o env)=eval o env:=by
 cases o <;> try rfl
 rename_i f xs ks pos
 cases f <;> try rfl
 cases xs <;> try rfl
 cases ks <;> try rfl
 exact absurd h Bool.false_ne_true
theorem few_ok {xs:List Expr} {env:Env} {pos:Pos} (hl:xs.length<=20):((xs.map fun e=>(false,eval e env)).all (fun x=>!x.1)&&(backToKw pos (keywordEach [] env)).all (fun x=>x.1.isSome)
   && decide (xs.length+([]:List Keyword).length+(if ([]:List Keyword).isEmpty then 0 else 1) < 30))=true:=by
 have h1:(xs.map fun e=>(false,eval e env)).all (fun x=>!x.1)=true:=by simp
 rw [h1]
 simp only [Bool.true_and,Bool.and_eq_true,decide_eq_true_eq]
 refine ⟨rfl,?_⟩
 simp only [List.length_nil,List.isEmpty_nil,if_true]
 exact jl1 (jc1 _) j0 (jK 20) (jA (jA (jA j0 (jK 0)) (jK 0)) (jK 1)) (jK 30) rfl hl
theorem told_lookup:typeLookup (.type "object") told=pure none:=by unfold told;rw [typeLookup_type,builtinLookup_eq_fast];kernel_rfl
theorem RoAt.inst {H:Hp} {h:Heap} {a d:Addr} {t:Option Addr} (x:RoAt B H h a d t):∃C,B.rdr=.ref C/\h.Inst a C (fun x=>if x=told then t.map Value.ref else none):=by
 obtain ⟨o,C,g,c,r,dc,dt,ne,_,n⟩:=x
 exact ⟨C,r,o,g,c,(fun c' q=>by rw [dt] at q;cases q),.inr ⟨d,dc,ne,n⟩⟩
theorem snd_told (hB:BOk prog w B T) {o:Ex} (ho:Snd prog w B T n o):Snd prog w B T n (.told o):=by
 intro e sc env vs loc H A s hc hsc aok c
 refine inv_told hc fun x np ap h1=>?_
 have main:∀(Q:D->Hp->Prop) (X:Nat->Hp->Prop),vE B.ns (CallS prog w B n) X (.told o) loc H Q->wpAny (model prog w) A (eval (.Attribute (.Name x np) told ap) env) (EPost B env vs loc H s Q) (EExc B env vs loc H s X) s:=by
  intro Q X h
  refine Attribute_name (wpAny_mono ((ho _ sc env vs loc H A s h1 hsc aok c).1 _ X h) (fun ov s1 hp=>?_) fun _ _ q=>q)
  obtain ⟨d,H1,r1,c1,k1,q1⟩:=hp
  obtain ⟨a,rfl,dd,t,e1,q2⟩:=ref_of q1
  simp only [Rep] at r1
  subst r1
  obtain ⟨C,hr,I⟩:=RoAt.inst (c1.hp a _ e1).1
  obtain ⟨C0,N,mN,e0,X0,gg,z1,z2,z3,z4,zi,mm⟩:=hB.rd (.inr ⟨C,hr⟩)
  rw [hr] at e0
  cases e0
  obtain ⟨nm,qq,bs,sn,sub,col,dd',l0,l1,l2,l3,l5,hC⟩:=(X0.keeps c1.base).obj
  have hns:=(X0.keeps c1.base).ns
  have fin:EPost B env vs loc H s Q (.ref t) { s1 with toks:=s1.toks+1 }:=EPost.lift k1 c1 (post_same c1.hp c1.base rep_ref q2 rfl)
  obtain ⟨hp,g,dr,tk,os⟩:=s1
  exact load_attr hC hns z1 z4 told_lookup I (if_pos rfl) rfl fin
 exact ⟨main,fun Q X h=>plain_true rfl (main _ X h)⟩
theorem Call_inst {A:Around} {E:Value->Shared->Prop} {s:Shared} {env:Env} {o:Expr} {name:Str} {apos pos:Pos} {args:List Expr} {Q:Value->Shared->Prop}
  (hbase:attributeBase o name env (eval o env)=eval o env)
  (hfew:((backTo pos (starEach args env)).all (fun x=>!x.1)&&(backToKw pos (keywordEach [] env)).all (fun x=>x.1.isSome)
   && decide (args.length+([]:List Keyword).length+(if ([]:List Keyword).isEmpty then 0 else 1) < 30))=true)
  (hline:(apos.endLine==pos.line)=true)
  (h:wpAny (model prog w) A (eval o env) (fun ov s₁=>∀pl,wpAny (model prog w) A (getMethod ov name pl) (fun r s₂=>wpAny (model prog w) A (callWith pos r.1 r.2 (backTo pos (starEach args env)) []) Q E s₂) E s₁) E s) :
  wpAny (model prog w) A (eval (.Call (.Attribute o name apos) args [] pos) env) Q E s:=by
 rw [arm_eval_Call,hbase]
 refine wpAny_bind (wpAny_mono h (fun ov s₁ h₁=>?_) fun _ _ e=>e)
 refine wpAny_bind (wpAny_standAt ?_)
 have hform:methodCallForm (args.length+([]:List Keyword).length) (backTo pos (starEach args env)) (backToKw pos (keywordEach [] env))=true:=hfew
 have hpos:methodCallPos true o env apos pos=pure pos:=by unfold methodCallPos;simp [hline]
 unfold methodCall
 rw [hform]
 refine wpAny_bind (wpAny_holding (wpAny_mono (h₁ _) (fun r s₂ h₂=>?_) fun _ _ e=>e))
 obtain ⟨f,first⟩:=r
 exact wpAny_bind (wpAny_of_eq hpos h₂)
theorem snd_mcall (hB:BOk prog w B T) {f:Nat} {o:Ex} {es:List Ex} (ho:Snd prog w B T n o) (hs:∀e∈es,Snd prog w B T n e):Snd prog w B T n (.mcall f o es):=by
 intro e sc env vs loc H A s hc hsc aok c
 refine inv_mcall hc fun v x ap xs pos h1 h2 h3 h4 h5 h6=>?_
 have main:∀(Q:D->Hp->Prop) (X:Nat->Hp->Prop),vE B.ns (CallS prog w B n) X (.mcall f o es) loc H Q->wpAny (model prog w) A (eval (.Call (.Attribute v x ap) xs [] pos) env) (EPost B env vs loc H s Q) (EExc B env vs loc H s X) s:=by
  intro Q X h
  have hlen:=(chkEs_at h3).1
  refine Call_inst (base_plain h6) (by rw [star_plain pos h3];exact few_ok (by exact jl2 (jc2 _ _) j0 j1 j1 (jK 20) j0 (jK 20) rfl (Nat.le_of_eq (Eq.symm hlen)) h4)) h5 (wpAny_mono ((ho _ sc env vs loc H A s h2 hsc aok c).1 _ X h) (fun ov s1 hp=>?_) fun _ _ q=>q)
  intro pl
  obtain ⟨d,H1,r1,c1,k1,q1⟩:=hp
  obtain ⟨a,rfl,dd,t,e1,q2⟩:=ref_of q1
  simp only [Rep] at r1
  subst r1
  obtain ⟨C,hr,I⟩:=RoAt.inst (c1.hp a _ e1).1
  obtain ⟨C0,N,mN,e0,X0,gg,z1,z2,z3,z4,zi,mm⟩:=hB.rd (.inr ⟨C,hr⟩)
  rw [hr] at e0
  cases e0
  obtain ⟨nm,qq,bs,sn,sub,col,dd',l0,l1,l2,l3,l5,hC⟩:=(X0.keeps c1.base).obj
  have hns:=(X0.keeps c1.base).ns
  obtain ⟨hx,hmx,⟨y,hy⟩,of,fd,hof,hoc,hod⟩:=mm x f h1
  have fin:wpAny (model prog w) A (callWith pos (.ref (B.fa f)) [.ref a] (backTo pos (starEach xs env)) []) (EPost B env vs loc H s Q) (EExc B env vs loc H s X) s1:=by
   refine Calls.callWith_function (o:=of) (fd:=fd) ?_
   have hargs:=args_sound pos hs h3 hsc (aok.keep c.hp k1) c1 q2
   rw [star_plain pos h3] at hargs ⊢
   refine evalArgs_list xs (wpAny_mono hargs (fun us s2 hp=>?_) fun _ _ q=>q.from k1)
   obtain ⟨⟨ds,H2,r2,c2,k2,q3⟩,_⟩:=hp
   refine ⟨⟨c2.base _ _ hof,hod⟩,?_⟩
   exact wpAny_mono (q3 A s2 (.ref a::us) (aok.keep c.hp (k1.trans k2)) c2.hp c2.base (.cons rep_ref r2)) (fun _ _ hp=>EPost.lift (k1.trans k2) c2 hp) fun _ _ hp=>EExc.lift (k1.trans k2) c2 hp
  have hof1:=c1.base _ _ hof
  obtain ⟨hp,g,dr,tk,os⟩:=s1
  exact method_of hC hns z1 z2 hmx hof1 hoc hy I (if_neg hx) fin
 exact ⟨main,fun Q X h=>plain_true rfl (main _ X h)⟩
section
variable {A:Around} {E:Value->Shared->Prop} {h:Heap} {g:Array GenState} {d:Drawn} {t:Nat} {os:OsState} {nm q:Str} {C N fI:Addr} {bs:List Value} {sn:List Str} {sub:List Value} {col:Option Bool} {dd:Option Addr} {k0 k1 k2 k3 k5:Option Value} {mN:Str->Option Value} {oI:Obj}
noncomputable abbrev newD:Obj:={ cls:=.type "dict",data:=.dict #[] }
noncomputable abbrev newX (C d:Addr):Obj:={ cls:=.ref C,dict:=some d,data:=.plain }
theorem begun (hC:h.get? C=some (excClassObj nm q C N bs [.type "object"] true sn sub false col dd k0 k1 k2 k3 k5 "object.__new__")) (hn:h.Ns N mN) (hi:mN "__init__" = some (.ref fI)) (hfI:h.get? fI=some oI) (hfc:oI.cls=.type "function") {Q:Fin->Shared->Prop}
  (hq:wpAny (model prog w) A (call (.ref fI) [.ref (h.objs.size+1)]) (fun r s'=>r=.none/\Q (.done (.ret (.ref (h.objs.size+1)))) s') E ⟨(h.push newD).push (newX C h.objs.size),g,d,t,os⟩) :
  wpAny (model prog w) A (Builtin.«type.__call__» ⟨[.ref C],[]⟩) Q E ⟨h,g,d,t,os⟩:=by
 have hlk:typeLookup (.type "object") "__init__" = pure (some (.builtin "object.__init__")):=by rw [typeLookup_type,builtinLookup_eq_fast];kernel_rfl
 repeat (first | with_reducible refine wpAny_loadPart_at hC ?_ | with_reducible refine wpAny_madeBy_exc hC ?_ | wp_step)
 refine codeAny_call_builtin_code (Code.quiet_builtin _ F.objNew.quiet) (wpAny_check_obj_new F.objNew hC ?_)
 refine codeAny_obj_new F.objNew hC hn hi ?_
 show wpAny _ _ _ _ _ _
 have up:∀b o,h.get? b=some o->((h.push newD).push (newX C h.objs.size)).get? b=some o:=fun b o e=>Heap.get?_push_of_some _ (Heap.get?_push_of_some _ e)
 have hget:((h.push newD).push (newX C h.objs.size)).get? (h.objs.size+1)=some (newX C h.objs.size):=by
  have:=Heap.get?_push_size (h.push newD) (o:=newX C h.objs.size) rfl
  rwa [Heap.size_push] at this
 have hC₁:=up _ _ hC
 have hcC:(Value.ref C::[Value.type "object"]).contains (.ref C)=true:=by simp
 unfold isInstance
 repeat (first | with_reducible refine wpAny_loadPart_at hget ?_ | (with_reducible refine wpAny_isSubtype_exc hC₁ ?_;rw [hcC]) | wp_step)
 show wpAny _ _ (typeLookup (.ref C) _) _ _ _
 refine wpAny_typeLookup_exc hC₁ (hn.keeps up) F.mro_object hlk ?_
 rw [hi]
 refine wpAny_holding (wpAny_bind ?_)
 unfold bindSpecial
 refine wpAny_bind (wpAny_typeOf (T:= "function") ⟨_,up _ _ hfI,hfc⟩ ?_)
 rw [if_pos (by decide)]
 refine wpAny_pure (wpAny_bind (wpAny_mono hq (fun r s' hr=>?_) fun _ _ x=>x))
 obtain ⟨rfl,hQ⟩:=hr
 wp_walk
 exact hQ
theorem call_new (hC:h.get? C=some (excClassObj nm q C N bs [.type "object"] true sn sub false col dd k0 k1 k2 k3 k5 "object.__new__")) (hn:h.Ns N mN) (hi:mN "__init__" = some (.ref fI)) (hfI:h.get? fI=some oI) (hfc:oI.cls=.type "function") {Q:Value->Shared->Prop}
  (hq:wpAny (model prog w) (A.under (.builtin "type.__call__" ⟨[.ref C],[]⟩)) (call (.ref fI) [.ref (h.objs.size+1)]) (fun r s'=>r=.none/\Q (.ref (h.objs.size+1)) s') E ⟨(h.push newD).push (newX C h.objs.size),g,d,t,os⟩) :
  wpAny (model prog w) A (call (.ref C) []) Q E ⟨h,g,d,t,os⟩:=by
 have f1:=tc_lookup
 have f2:=tc_bind (.ref C)
 have hT:(⟨h,g,d,t,os⟩:Shared).TypeIs (.ref C) "type" := ⟨_,hC,rfl⟩
 refine wpAny_call (codeAny_of_tree ?_)
 show wpAny _ _ (callAny (.ref C) _) _ _ _
 repeat (any_goals (first | assumption | with_reducible refine wpAny_loadPart_at hC ?_ | wp_step))
 refine ⟨rfl,?_⟩
 exact codeAny_call_builtin_at (Code.quiet_builtin _ (by decide+kernel)) entry_typeCall (wpAny_check_type_call_sub hC (begun hC hn hi hfI hfc hq))
end
theorem post_reader {H:Hp} {s:Shared} {Q:D->Hp->Prop} {h':Heap} {a d t:Addr} {tk:Nat} (C:ConcH B H s.heap) (hb:B.base.StaysIn s.heap) (k:∀b o,s.heap.get? b=some o->h'.get? b=some o) (hz:s.heap.objs.size<=h'.objs.size)
  (na:s.heap.get? a=none) (nd:s.heap.get? d=none) (nt:s.heap.get? t=none) (hta:t≠a) (htd:t≠d) (hl:IsL h' t #[] 0) (hr:∀H':Hp,H' d=some (.aux a)->RoAt B H' h' a d (some t))
  (hq:∀a d t,H a=none->H d=none->H t=none->d≠a->t≠a->t≠d->Q (.ref a) (((H.set t (.list [])).set d (.aux a)).set a (.robj d (some t)))):CallPost B H s Q (.ref a) { s with heap:=h',toks:=tk }:=by
 have fr:∀{b:Addr},s.heap.get? b=none->H b=none:=fun {b} e=>by
  cases q:H b with
  | none=>rfl
  | some ob=>
   have x:=(C b ob q).1
   cases ob with
   | list l=>obtain ⟨vs,n,e',_⟩:=x;rw [show s.heap.get? b=_ from e'] at e;cases e
   | robj d t=>obtain ⟨o,C',e',_⟩:=(x:RoAt B H s.heap b d t);rw [e'] at e;cases e
   | aux _=>obtain ⟨o,es,n,e',_⟩:=x;rw [e'] at e;cases e
 have bn:∀{b:Addr},s.heap.get? b=none->B.base.get? b=none:=fun {b} e=>by
  cases q:B.base.get? b with
  | none=>rfl
  | some o=>rw [hb _ _ q] at e;cases e
 have hda:d≠a:=by obtain ⟨_,_,_,_,_,_,_,q,_⟩:=hr (fun _=>some (.aux a)) rfl;exact q
 have hx:(((H.set t (.list [])).set d (.aux a)).set a (.robj d (some t))) d=some (.aux a):=by rw [Hp.set_other _ _ hda,Hp.set_self]
 refine ⟨.ref a,_,rep_ref,?_,fun b o e=>k b o (hb b o e),⟨fun b o e hn _=>⟨⟨o,k b o e,.refl o⟩,?_⟩,hz,rfl,rfl⟩,hq a d t (fr na) (fr nd) (fr nt) hda hta htd⟩
 ·intro b ob e
  by_cases q1:b=a
  ·subst q1
   rw [Hp.set_self] at e;cases e
   exact ⟨hr _ hx,bn na⟩
  rw [Hp.set_other _ _ q1] at e
  by_cases q2:b=d
  ·subst q2
   rw [Hp.set_self] at e;cases e
   obtain ⟨_,_,_,_,_,_,_,_,_,⟨od,es,ep,ed,dd,_⟩⟩:=hr _ hx
   exact ⟨⟨od,es,ep,ed,dd⟩,bn nd⟩
  rw [Hp.set_other _ _ q2] at e
  by_cases q3:b=t
  ·subst q3
   rw [Hp.set_self] at e;cases e
   exact ⟨⟨#[],0,hl,Nat.zero_le _,.nil⟩,bn nt⟩
  rw [Hp.set_other _ _ q3] at e
  obtain ⟨x,y⟩:=C b ob e
  refine ⟨x.pres (.grow k) (fun o g=>k b o g) fun d' t' qq=>⟨?_,fun o g=>k d' o g⟩,y⟩
  subst qq
  have hd:=RoAt.aux x
  rw [Hp.set_other,Hp.set_other,Hp.set_other]
  ·exact hd
  ·intro z;subst z;rw [fr nt] at hd;cases hd
  ·intro z;subst z;rw [fr nd] at hd;cases hd
  ·intro z;subst z;rw [fr na] at hd;cases hd
 ·rw [Hp.set_other,Hp.set_other,Hp.set_other]
  ·exact hn
  ·intro z;subst z;rw [nt] at e;cases e
  ·intro z;subst z;rw [nd] at e;cases e
  ·intro z;subst z;rw [na] at e;cases e
theorem new_sound (hB:BOk prog w B T) (hm:T.meths≠[]) {A:Around} {E:Value->Shared->Prop} {H:Hp} {s:Shared} {Q:D->Hp->Prop} (aok:AOk B A n H s.heap) (C:ConcH B H s.heap) (hb:B.base.StaysIn s.heap)
  (hq:∀a d t,H a=none->H d=none->H t=none->d≠a->t≠a->t≠d->Q (.ref a) (((H.set t (.list [])).set d (.aux a)).set a (.robj d (some t)))):wpAny (model prog w) A (call B.rdr []) (CallPost B H s Q) E s:=by
 obtain ⟨C0,N,mN,e0,X0,gg,z1,z2,z3,z4,zi,mm⟩:=hB.rd (.inl hm)
 obtain ⟨f,o,qual,params,scope,pm,cd,doc,p1,p2,p3,p4,ie,ig,ic,idt,ir,ps,pa,lk,nc,co,ge,kd⟩:=zi
 rw [e0]
 obtain ⟨nm,qq,bs,sn,sub,col,dd',l0,l1,l2,l3,l5,hC⟩:=(X0.keeps hb).obj
 have hns:=(X0.keeps hb).ns
 have hig:=hb _ _ ig
 have hnl:=hB.nolimit.keeps hb
 have hdep:=aok.depth
 have post:=fun h' a d t tk=>post_reader (h':=h') (a:=a) (d:=d) (t:=t) (tk:=tk) C hb (hq:=hq)
 have hx0:∀{x:Addr},s.heap.get? x=none->x≠C0:=fun h q=>by rw [q,hC] at h;cases h
 obtain ⟨hh,g,dr,tk,os⟩:=s
 refine call_new hC hns ie hig ic ?_
 have up:∀b o,hh.get? b=some o->((hh.push newD).push (newX C0 hh.objs.size)).get? b=some o:=fun b o e=>Heap.get?_push_of_some _ (Heap.get?_push_of_some _ e)
 have hgx:((hh.push newD).push (newX C0 hh.objs.size)).get? (hh.objs.size+1)=some (newX C0 hh.objs.size):=by
  have:=Heap.get?_push_size (hh.push newD) (o:=newX C0 hh.objs.size) rfl
  rwa [Heap.size_push] at this
 have hgd:((hh.push newD).push (newX C0 hh.objs.size)).get? hh.objs.size=some newD:=Heap.get?_push_of_some _ (Heap.get?_push_at rfl rfl)
 have hsz:((hh.push newD).push (newX C0 hh.objs.size)).objs.size=hh.objs.size+2:=by rw [Heap.size_push,Heap.size_push]
 generalize (hh.push newD).push (newX C0 hh.objs.size)=h' at up hgx hgd hsz
 have hbind:=bind_pos (fd:=methDef "__init__" qual params [.Assign [.Attribute (.Name (Str.ofString "self") p1) told p2] (.List [] p3) p4] scope pm cd doc) (vals:=[.ref (hh.objs.size+1)]) ps rfl (by rw [pa];simp) (by have:=congrArg List.length pa;simpa using this.symm)
 rw [pa] at hbind
 refine wpAny_call (codeAny_call_def (fd:=methDef "__init__" qual params _ scope pm cd doc) (body:=_) (binds:=[(Str.ofString "self",.ref (hh.objs.size+1))]) (by rw [depth_under_make];unfold recursionLimit;exact jl1 (jc2 _ _) (jA j0 j1) (jK 990) (jA (jA j0 (jK 1)) (jK 1)) (jK 1000) rfl hdep) (up _ _ hig) idt (hnl.keeps up) ((ir.keeps hb).keeps up) rfl (.of_eq hbind) nc
  (fun y hy=>by rw [List.mem_singleton.mp hy];exact lk) (fun h₁ hn₁ hk₁=>?_) co ge kd)
 have hn₁:h₁.Ns h'.objs.size (fun x=>[(Str.ofString "self",Value.ref (hh.objs.size+1))].reverse.lookup x):=hn₁
 have hz₁:hh.objs.size+2 < h₁.objs.size:=by have:=hn₁.lt;rw [hsz] at this;exact this
 have k2:∀b o,h₁.get? b=some o->(h₁.push { cls:=.type "list",data:=.seq #[] }).get? b=some o:=fun b o e=>Heap.get?_push_of_some _ e
 refine wpAny_execs_cons (plainObj_wpAny_Assign_Attribute (List_ (Calls.spliced_nil (wpAny_newList (wpAny_Name (wpAny_loadName_local (v:=.ref (hh.objs.size+1)) (m:=fun x=>[(Str.ofString "self",Value.ref (hh.objs.size+1))].reverse.lookup x) kd lk (hn₁.keeps k2) (by simp [List.lookup_cons]) ?_) rfl) (by decide)))))
 have I:(h₁.push { cls:=.type "list",data:=.seq #[] }).Inst (hh.objs.size+1) C0 (fun _=>none):=
  ⟨_,k2 _ _ (hk₁ _ _ hgx),rfl,(fun c q=>by cases q),.inr ⟨hh.objs.size,rfl,Nat.ne_of_lt (Nat.lt_succ_self _),Heap.Ns1.of_empty ⟨_,#[],_,k2 _ _ (hk₁ _ _ hgd),rfl,fun e he=>absurd he (by simp),fun _=>rfl⟩⟩⟩
 have kAll:∀b o,hh.get? b=some o->(h₁.push { cls:=.type "list",data:=.seq #[] }).get? b=some o:=fun b o e=>k2 _ _ (hk₁ _ _ (up _ _ e))
 have hl₂:(h₁.push { cls:=.type "list",data:=.seq #[] }).get? h₁.objs.size=some { cls:=.type "list",data:=.seq #[] }:=Heap.get?_push_size _ rfl
 have hgx₂:=k2 _ _ (hk₁ _ _ hgx)
 have hz₂:(h₁.push { cls:=.type "list",data:=.seq #[] }).objs.size=h₁.objs.size+1:=Heap.size_push ..
 show wpAny _ _ (setAttr (.ref (hh.objs.size+1)) told (.ref h₁.objs.size)) _ _ ⟨h₁.push { cls:=.type "list",data:=.seq #[] },_,_,_,_⟩
 generalize h₁.push { cls:=.type "list",data:=.seq #[] }=h₂ at I kAll hl₂ hgx₂ hz₂
 refine store_attr F.store_object (kAll _ _ hC) (hns.keeps kAll) z3 z4 told_lookup (hx0 (Heap.get?_none_of_le (Nat.le_succ _))) I (fun h₃ tk' I' hk hsame=>wpAny_execs_nil ?_)
 have kk:∀b o,b≠hh.objs.size+1->b≠hh.objs.size->h₂.get? b=some o->h₃.get? b=some o:=fun b o n1 n2 e=>hk b o n1 (fun o₀ dx e₀ ed=>by
  obtain rfl:=Option.some.inj (hgx₂.symm.trans e₀)
  cases ed
  exact n2) e
 obtain ⟨o₁,e₁,c₁,dt₁,_,dk₁⟩:=hsame _ hgx₂
 obtain ⟨o',e',_,_,hd'⟩:=I'
 obtain rfl:=Option.some.inj (e₁.symm.trans e')
 have hns':h₃.Ns1 hh.objs.size (fun y=>if y=told then some (.ref h₁.objs.size) else none):=by
  rcases hd' with ⟨hn0,_⟩ | ⟨d',hd',_,hns'⟩
  ·rw [dk₁ _ rfl] at hn0;cases hn0
  ·obtain rfl:=Option.some.inj ((dk₁ _ rfl).symm.trans hd');exact hns'
 have hne:hh.objs.size≠hh.objs.size+1:=Nat.ne_of_lt (Nat.lt_succ_self _)
 refine ⟨rfl,post h₃ (hh.objs.size+1) hh.objs.size h₁.objs.size _ (fun b o e=>?_) ?_ (Heap.get?_none_of_le (Nat.le_succ _)) (Heap.get?_none_of_le (Nat.le_refl _)) (Heap.get?_none_of_le (show hh.objs.size<=h₁.objs.size by exact jl1 (jc2 _ _) (jA (jA j0 (jK 2)) (jK 1)) j1 j0 j1 rfl hz₁)) (Nat.ne_of_gt (show hh.objs.size+1 < h₁.objs.size by exact jk60 hz₁)) (Nat.ne_of_gt (show hh.objs.size < h₁.objs.size by exact jk61 hz₁)) ?_ fun H' hx=>?_⟩
 ·exact kk b o (Nat.ne_of_lt (Nat.lt_succ_of_lt (Heap.lt_size e))) (Nat.ne_of_lt (Heap.lt_size e)) (kAll _ _ e)
 ·exact Nat.le_of_lt (Nat.lt_of_succ_lt (Heap.lt_size e₁))
 ·exact kk _ _ (Nat.ne_of_gt (show hh.objs.size+1 < h₁.objs.size by exact jk60 hz₁)) (Nat.ne_of_gt (show hh.objs.size < h₁.objs.size by exact jk61 hz₁)) hl₂
 ·exact RoAt.mk o₁ C0 e₁ c₁ e0 (dk₁ _ rfl) dt₁ hne hx hns'
theorem snd_new (hB:BOk prog w B T):Snd prog w B T n .new:=by
 intro e sc env vs loc H A s hc hsc aok c
 refine inv_new hc fun np pos h1 h2 h3=>?_
 have main:∀(Q:D->Hp->Prop) (X:Nat->Hp->Prop),vE B.ns (CallS prog w B n) X .new loc H Q->wpAny (model prog w) A (eval (.Call (.Name T.rname np) [] [] pos) env) (EPost B env vs loc H s Q) (EExc B env vs loc H s X) s:=by
  intro Q X h
  obtain ⟨C0,N,mN,e0,X0,gg,_⟩:=hB.rd (.inl h3)
  refine wpAny_Call_NameR (load_glob hB (hsc.glob _ h1) h2 c (Or.inl gg) (callWith_cls0 X0 c.base ?_))
  have:=new_sound (E:=EExc B env vs loc H s X) hB h3 aok c.hp c.base h
  rw [e0] at this
  exact wpAny_mono this (fun _ _ hp=>EPost.lift .refl c hp) fun _ _ q=>q
 exact ⟨main,fun Q X h=>plain_true rfl (main _ X h)⟩
section
open Builtin Builtin.ObjectAttr
variable {A:Around} {E:Value->Shared->Prop} {h:Heap} {g:Array GenState} {d:Drawn} {t:Nat} {os:OsState} {nm q:Str} {C N x dx:Addr} {bs:List Value} {sn:List Str} {sub:List Value} {ab:Bool} {col:Option Bool} {dd:Option Addr} {k0 k1 k2 k3 k5:Option Value} {mN mA:Str->Option Value} {newId:String} {o:Obj} {v:Value}
theorem told_entry {tk:Tok} {Q:Fin->Shared->Prop} {ns:List Str}
  (hC:h.get? C=some (excClassObj nm q C N bs [.type "object"] true sn sub ab col dd k0 k1 k2 k3 k5 newId)) (hn:h.Ns N mN) (hna:mN told=none) (hx:h.get? x=some o) (hc:o.cls=.ref C) (hdx:o.dict=some dx) (hns:h.Ns1 dx mA)
  (hq:∀h' tk',h'.Ns1 dx (fun y=>if y=told then some v else mA y)->Heap.SameBut dx h h'->Q (.done (.ret .none)) ⟨h',g,d,tk',os⟩) (hw:Within mA ns) (hsz:ns.length<=100) :
  wpAny (model prog w) A (Builtin.«object.__setattr__» ⟨[.ref x,.str told tk,v],[]⟩) Q E ⟨h,g,d,t,os⟩:=by
 have hpass:=F.store_object.passes (.ref x)
 unfold Builtin.«object.__setattr__»
 repeat (first | rw [refuse_eq] | (rw [refuseLoop_ref,hpass]) | (with_reducible refine wpAny_loadPart_at hx ?_;rw [hc]) | with_reducible refine wpAny_mroOf_exc hC ?_ | (with_reducible refine wpAny_typeLookup_exc hC hn F.mro_object told_lookup ?_;rw [hna]) | wp_step)
 rw [hdx]
 refine wpAny_pure ?_
 show wpAny _ _ (storeInDict dx (.str told tk) told v) _ _ _
 unfold storeInDict newKeyGuard
 refine wpAny_bind (wpAny_pure (wpAny_bind (wpAny_nsSet1 hns fun h' hn' hs=>?_)))
 obtain ⟨oD,esD,epD,hoD,hdD,hcD⟩:=hn'.count (Within.cons told v hw)
 refine wpAny_bind (wpAny_lookBehind hoD (by rw [hdD];exact pastItsLine_dict (Nat.le_trans hcD (by rw [List.length_cons,sizeLine_eq];exact jl1 (jc1 _) j0 (jK 100) (jA j0 (jK 1)) (jA (jK 16777216) (jK 1)) rfl hsz))) ?_)
 wp_walk
 exact hq h' _ hn' hs
theorem told_call {sa owner:String} (SF:StoreFacts "object" [.type "object"] sa owner) {tk:Tok} {R:Result->Shared->Prop} {ns:List Str}
  (hC:h.get? C=some (excClassObj nm q C N bs [.type "object"] true sn sub ab col dd k0 k1 k2 k3 k5 newId)) (hn:h.Ns N mN) (hna:mN told=none) (hx:h.get? x=some o) (hc:o.cls=.ref C) (hdx:o.dict=some dx) (hns:h.Ns1 dx mA)
  (hq:∀h' tk',h'.Ns1 dx (fun y=>if y=told then some v else mA y)->Heap.SameBut dx h h'->R (.ok (.ret .none)) ⟨h',g,d,tk',os⟩) (hw:Within mA ns) (hsz:ns.length<=100) :
  codeAny (model prog w) A (.call (.builtin sa) ⟨[.ref x,.str told tk,v],[]⟩) R ⟨h,g,d,t,os⟩:=
 codeAny_call_builtin SF.slot.plain SF.entry (wpAny_check_sa SF hC hx hc (told_entry hC hn hna hx hc hdx hns hq hw hsz))
theorem told_store {Q:Unit->Shared->Prop} {ns:List Str}
  (hC:h.get? C=some (excClassObj nm q C N bs [.type "object"] true sn sub ab col dd k0 k1 k2 k3 k5 newId)) (hn:h.Ns N mN) (hs0:mN "__setattr__" = none) (hna:mN told=none) (hx:h.get? x=some o) (hc:o.cls=.ref C) (hdx:o.dict=some dx) (hns:h.Ns1 dx mA)
  (hq:∀h' tk',h'.Ns1 dx (fun y=>if y=told then some v else mA y)->Heap.SameBut dx h h'->Q () ⟨h',g,d,tk',os⟩) (hw:Within mA ns) (hsz:ns.length<=100) :
  wpAny (model prog w) A (setAttr (.ref x) told v) Q E ⟨h,g,d,t,os⟩:=by
 have f3:=F.store_object.slot.bind (.ref x)
 unfold setAttr callSpecial? specialOf
 repeat (any_goals (first | assumption | (with_reducible refine wpAny_loadPart_at hx ?_;rw [hc]) | (with_reducible refine wpAny_typeLookup_exc hC hn F.store_object.mro F.store_object.slot.lookup ?_;rw [hs0]) | wp_step))
 refine told_call F.store_object hC hn hna hx hc hdx hns (fun h' tk' hn' hs=>?_) hw hsz
 repeat (any_goals (first | assumption | wp_step))
 exact hq h' tk' hn' hs
end
theorem told_within {ov:Option Value}:PySem.Within (fun x=>if x=told then ov else none) [told]:=fun y hy=>by
 by_cases q:y=told
 ·rw [q];exact List.mem_singleton_self _
 ·exact absurd (if_neg q) hy
end
end Mine
set_option Elab.async false
namespace Mine
open PySem PyProof.Rows
section
variable {prog:Program} {w:World} {B:Bs} {T:Tab} {n:Nat}
theorem snd_meth {m:Mt} {o:Ex} {es:List Ex} (ho:Snd prog w B T n o) (hs:∀e∈es,Snd prog w B T n e):Snd prog w B T n (.meth m o es):=by
 intro e sc env vs loc H A s hc hsc aok c
 refine inv_meth hc fun v x ap xs pos h1 h2 h3 h4 h5=>?_
 ·
  have hlen:=(chkEs_at h3).1
  have hfew:xs.length<=20:=by
   cases m <;> simp only [mtOk,Bool.and_eq_true,beq_iff_eq] at h1 <;> first | (exact absurd h1 Bool.false_ne_true) | omega
  have rest:∀(ov:Value) (d:D) (H1:Hp) (s1:Shared) (Q:D->Hp->Prop) (X:Nat->Hp->Prop),Rep B s1.heap d ov->Conc B env vs loc H1 s1->Keep noOwn H s H1 s1->vEs B.ns (CallS prog w B n) X es loc H1 (fun ds H2=>vMeth m d ds H2 Q) ->
    wpAny (model prog w) A (callWith pos (.builtin (mid m)) [ov] (backTo pos (starEach xs env)) []) (EPost B env vs loc H s Q) (EExc B env vs loc H s X) s1:=by
   intro ov d H1 s1 Q X r1 c1 k1 q1
   have hargs:=args_sound pos hs h3 hsc (aok.keep c.hp k1) c1 q1
   rw [star_plain pos h3] at hargs ⊢
   refine Calls.callWith_builtin plain_any (evalArgs_list xs (wpAny_mono hargs (fun us s2 hp=>?_) fun _ _ q=>q.from k1))
   obtain ⟨⟨ds,H2,r2,c2,k2,q2⟩,_⟩:=hp
   exact wpAny_mono (meth_sound q2 (r1.keep c1.hp k2) r2 c2.hp c2.base) (fun _ _ hp=>EPost.lift (k1.trans k2) c2 hp) fun _ _ q=>q
  have main:∀(Q:D->Hp->Prop) (X:Nat->Hp->Prop),vE B.ns (CallS prog w B n) X (.meth m o es) loc H Q->wpAny (model prog w) A (eval (.Call (.Attribute v x ap) xs [] pos) env) (EPost B env vs loc H s Q) (EExc B env vs loc H s X) s:=by
   intro Q X h
   have hbase:=base_plain (name:=x) (env:=env) h5
   have hfew':((backTo pos (starEach xs env)).all (fun x=>!x.1)&&(backToKw pos (keywordEach [] env)).all (fun x=>x.1.isSome)
     && decide (xs.length+([]:List Keyword).length+(if ([]:List Keyword).isEmpty then 0 else 1) < 30))=true:=by rw [star_plain pos h3];exact few_ok hfew
   have hval:=(ho _ sc env vs loc H A s h2 hsc aok c).1 _ X h
   cases m <;> simp only [mtOk,Bool.and_eq_true,beq_iff_eq] at h1 <;> first | (exact absurd h1 Bool.false_ne_true) | skip
   ·obtain ⟨rfl,_⟩:=h1
    refine wpAny_Call_method hbase hfew' h4 F.plainAttrs_list F.slot_list_append F.type_list_append (wpAny_mono hval (fun ov s1 hp=>?_) fun _ _ q=>q)
    obtain ⟨d,H1,r1,c1,k1,hm,q1⟩:=hp
    obtain ⟨a,rfl,l,e⟩:=ref_of hm
    obtain ⟨us,k,g,_⟩:=c1.hp.list e
    have r1':=r1
    simp only [Rep] at r1'
    subst r1'
    exact ⟨⟨_,g,rfl⟩,fun a' ha'=>by cases ha';exact ⟨_,g,rfl⟩,rest _ _ H1 s1 Q X r1 c1 k1 q1⟩
   ·obtain ⟨rfl,_⟩:=h1
    refine wpAny_Call_method hbase hfew' h4 F.plainAttrs_list F.slot_list_pop F.type_list_pop (wpAny_mono hval (fun ov s1 hp=>?_) fun _ _ q=>q)
    obtain ⟨d,H1,r1,c1,k1,hm,q1⟩:=hp
    obtain ⟨a,rfl,l,e⟩:=ref_of hm
    obtain ⟨us,k,g,_⟩:=c1.hp.list e
    have r1':=r1
    simp only [Rep] at r1'
    subst r1'
    exact ⟨⟨_,g,rfl⟩,fun a' ha'=>by cases ha';exact ⟨_,g,rfl⟩,rest _ _ H1 s1 Q X r1 c1 k1 q1⟩
   ·obtain ⟨rfl,_⟩:=h1
    refine wpAny_Call_method hbase hfew' h4 F.plainAttrs_list F.slot_list_clear F.type_list_clear (wpAny_mono hval (fun ov s1 hp=>?_) fun _ _ q=>q)
    obtain ⟨d,H1,r1,c1,k1,hm,q1⟩:=hp
    obtain ⟨a,rfl,l,e⟩:=ref_of hm
    obtain ⟨us,k,g,_⟩:=c1.hp.list e
    have r1':=r1
    simp only [Rep] at r1'
    subst r1'
    exact ⟨⟨_,g,rfl⟩,fun a' ha'=>by cases ha';exact ⟨_,g,rfl⟩,rest _ _ H1 s1 Q X r1 c1 k1 q1⟩
   ·obtain ⟨rfl,_⟩:=h1
    refine wpAny_Call_method hbase hfew' h4 F.plainAttrs_str F.slot_str_join F.type_str_join (wpAny_mono hval (fun ov s1 hp=>?_) fun _ _ q=>q)
    obtain ⟨d,H1,r1,c1,k1,hm,q1⟩:=hp
    obtain ⟨l,rfl,_⟩:=str_of hm
    have r1':=r1
    simp only [Rep] at r1'
    obtain ⟨_,_,t,rfl⟩:=r1'
    exact ⟨typeIs_str _ _ _,(fun a' ha'=>by cases ha'),rest _ _ H1 s1 Q X r1 c1 k1 q1⟩
  exact ⟨main,fun Q X h=>plain_true rfl (main _ X h)⟩
theorem folded_ok {x:Ex} {e:Expr} {sc:List (Str×NameKind)} {vs:List Str} (h:chkE T sc vs x e=true) (env:Env):∀v,foldedSetIterable e env v=pure v:=by
 intro v
 have h:=chk_tree h
 cases e <;> first | rfl | exact absurd h Bool.false_ne_true
theorem comp_names {sc:List (Str×NameKind)} {scope:Scope} {y:Str} {vs:List Str} (cs:CsOk sc scope y vs):∀x∈scope.names,x.2=.local->scope.names.lookup x.1=some .local:=fun x hx hl=>by
 obtain ⟨x,k⟩:=x
 simp only at hl;subst hl
 exact (cs.loc x hx).1
theorem comp_end {env:Env} {vs:List Str} {loc:Loc} {H H1 H2:Hp} {s s1 s':Shared} {Q:D->Hp->Prop} {D' C:Addr} {h':Heap} (c1:Conc B env vs loc H1 s1) (k1:Keep noOwn H s H1 s1) (gC:s1.heap.objs.size<=C)
  (K:Keep noOwn H1 s1 H2 s') (CH:ConcH B H2 s'.heap) (SB:B.base.StaysIn s'.heap) (hn:∃m,s'.heap.Ns C m) (hC:H2 C=none) (hs:Heap.SameBut C s'.heap h') (hq:Q (.ref D') H2):EPost B env vs loc H s Q (.ref D') { s' with heap:=h' }:=by
 obtain ⟨m,hm⟩:=hn
 have hE:=hs.extBut
 have K':Keep noOwn H1 s1 H2 { s' with heap:=h' }:=K.but hE gC (Nat.le_of_eq hs.1.symm) rfl rfl
 have CH':ConcH B H2 h':=CH.but hE hC (cell_not_imm hm)
 have SB':B.base.StaysIn h':=StaysIn.but SB hE (base_none_of_ge c1.base gC)
 exact ⟨.ref D',H2,by simp only [Rep],c1.keep K' CH' SB',k1.trans K',hq⟩
theorem comp_noexc {env:Env} {vs:List Str} {loc:Loc} {H:Hp} {s s':Shared} {v:Value} (x:EExc B env vs loc H s (fun _ _=>False) v s'):False:=by
 obtain ⟨_,_,_,_,_,_,_,q⟩:=x;exact q
theorem comp_body1 {x:Ex} (hx:Snd prog w B T n x) {elt:Expr} {scope:Scope} {y:Str} {vs:List Str} {env:Env} {loc:Loc} {A:Around} (h2:chkE T scope.names (y::vs) x elt=true) :
  ∀C d H' (K:Option D->Hp->Prop) s',(fun d H K=>vE B.ns (CallS prog w B n) (fun _ _=>False) x (some d::loc) H fun r H'=>K (some r) H') d H' K->AOk B A n H' s'.heap->Conc B (compEnvC scope (clFrom env scope.names []) C env) (y::vs) (some d::loc) H' s' ->
   wpAny (model prog w) A (forIn [] true fun c r=>if r=true then do let ok <-isTrue c (compEnvC scope (clFrom env scope.names []) C env) (eval c (compEnvC scope (clFrom env scope.names []) C env));pure (ForInStep.yield ok) else pure (ForInStep.yield r))
    (fun ok s3=>if ok=true then wpAny (model prog w) A (eval elt (compEnvC scope (clFrom env scope.names []) C env)) (fun v s4=>∃dv H'',Rep B s4.heap dv v/\ConcH B H'' s4.heap/\B.base.StaysIn s4.heap/\Keep noOwn H' s' H'' s4/\K (some dv) H'') (fun _ _=>False) s3
     else ∃H'',ConcH B H'' s3.heap/\B.base.StaysIn s3.heap/\Keep noOwn H' s' H'' s3/\K none H'') (fun _ _=>False) s':=by
 intro C d H' K s' hf a' c'
 rw [List.forIn_nil]
 refine wpAny_pure ?_
 simp only [if_true]
 refine wpAny_mono ((hx _ scope.names _ _ _ H' A s' h2 comp_scok a' c').1 _ _ hf) (fun v s4 hp=>?_) fun _ _ q=>comp_noexc q
 obtain ⟨dv,H'',r,c4,k4,q4⟩:=hp
 exact ⟨dv,H'',r,c4.hp,c4.base,k4,q4⟩
theorem comp_body2 {x t:Ex} (hx:Snd prog w B T n x) (ht:Snd prog w B T n t) {elt cond:Expr} {scope:Scope} {y:Str} {vs:List Str} {env:Env} {loc:Loc} {A:Around} (h2:chkE T scope.names (y::vs) x elt=true) (h3:chkE T scope.names (y::vs) t cond=true) :
  ∀C d H' (K:Option D->Hp->Prop) s',(fun d H K=>vE B.ns (CallS prog w B n) (fun _ _=>False) t (some d::loc) H fun b H'=>KB b fun r=>if r then vE B.ns (CallS prog w B n) (fun _ _=>False) x (some d::loc) H' fun r H''=>K (some r) H'' else K none H') d H' K ->
   AOk B A n H' s'.heap->Conc B (compEnvC scope (clFrom env scope.names []) C env) (y::vs) (some d::loc) H' s' ->
   wpAny (model prog w) A (forIn [cond] true fun c r=>if r=true then do let ok <-isTrue c (compEnvC scope (clFrom env scope.names []) C env) (eval c (compEnvC scope (clFrom env scope.names []) C env));pure (ForInStep.yield ok) else pure (ForInStep.yield r))
    (fun ok s3=>if ok=true then wpAny (model prog w) A (eval elt (compEnvC scope (clFrom env scope.names []) C env)) (fun v s4=>∃dv H'',Rep B s4.heap dv v/\ConcH B H'' s4.heap/\B.base.StaysIn s4.heap/\Keep noOwn H' s' H'' s4/\K (some dv) H'') (fun _ _=>False) s3
     else ∃H'',ConcH B H'' s3.heap/\B.base.StaysIn s3.heap/\Keep noOwn H' s' H'' s3/\K none H'') (fun _ _=>False) s':=by
 intro C d H' K s' hf a' c'
 refine wpAny_tests_one ?_
 refine wpAny_mono ((ht _ scope.names _ _ _ H' A s' h3 comp_scok a' c').2 (fun r H'=>if r then vE B.ns (CallS prog w B n) (fun _ _=>False) x (some d::loc) H' fun r H''=>K (some r) H'' else K none H') _ hf) (fun ok s3 hp=>?_) fun _ _ q=>comp_noexc q
 obtain ⟨H3,c3,k3,q3⟩:=hp
 cases ok with
 | false=>simp only [Bool.false_eq_true,if_false] at q3 ⊢;exact ⟨H3,c3.hp,c3.base,k3,q3⟩
 | true=>
  simp only [if_true] at q3 ⊢
  refine wpAny_mono ((hx _ scope.names _ _ _ H3 A s3 h2 comp_scok (a'.keep c'.hp k3) c3).1 _ _ q3) (fun v s4 hp=>?_) fun _ _ q=>comp_noexc q
  obtain ⟨dv,H'',r,c4,k4,q4⟩:=hp
  exact ⟨dv,H'',r,c4.hp,c4.base,k3.trans k4,q4⟩
theorem snd_comp {x it:Ex} (hx:Snd prog w B T n x) (hi:Snd prog w B T n it):Snd prog w B T n (.comp x it):=by
 intro e sc env vs loc H A s hc hsc aok c
 refine inv_comp hc fun elt y py' iter scope pos h1 h2 h3=>?_
 ·
  have cs:=csOk_of h3
  have main:∀(Q:D->Hp->Prop) (X:Nat->Hp->Prop),vE B.ns (CallS prog w B n) X (.comp x it) loc H Q->wpAny (model prog w) A (eval (.ListComp elt [⟨.Name y py',iter,[],0⟩] scope pos) env) (EPost B env vs loc H s Q) (EExc B env vs loc H s X) s:=by
   intro Q X h
   rw [eval_ListComp]
   refine wpAny_comprehension_free (use:=none) rfl (folded_ok h1 env) (closureFor_is (fr_closure c.fr hsc cs)) cs.kind (comp_names cs) (wpAny_mono ((hi _ sc env vs loc H A s h1 hsc aok c).1 _ X h) (fun x1 s1 hp=>?_) fun _ _ q=>q)
   obtain ⟨src,H1,r1,c1,k1,all,hall,hf⟩:=hp
   refine comp_any c1 (aok.keep c.hp k1) hsc cs hall r1 (comp_body1 hx h2) hf fun D' C acc H' s' _ gD gC hqf hD K CH SB hn hC=>?_
   exact ⟨hn.choose,hn.choose_spec,fun h' hs=>comp_end c1 k1 gC K CH SB hn hC hs (hqf D' hD)⟩
  exact ⟨main,fun Q X h=>plain_true rfl (main _ X h)⟩
theorem snd_compIf {x it t:Ex} (hx:Snd prog w B T n x) (hi:Snd prog w B T n it) (ht:Snd prog w B T n t):Snd prog w B T n (.compIf x it t):=by
 intro e sc env vs loc H A s hc hsc aok c
 refine inv_compIf hc fun elt y py' iter cond scope pos h1 h2 h4 h3=>?_
 ·
  have cs:=csOk_of h3
  have main:∀(Q:D->Hp->Prop) (X:Nat->Hp->Prop),vE B.ns (CallS prog w B n) X (.compIf x it t) loc H Q->wpAny (model prog w) A (eval (.ListComp elt [⟨.Name y py',iter,[cond],0⟩] scope pos) env) (EPost B env vs loc H s Q) (EExc B env vs loc H s X) s:=by
   intro Q X h
   rw [eval_ListComp]
   refine wpAny_comprehension_free (use:=none) rfl (folded_ok h1 env) (closureFor_is (fr_closure c.fr hsc cs)) cs.kind (comp_names cs) (wpAny_mono ((hi _ sc env vs loc H A s h1 hsc aok c).1 _ X h) (fun x1 s1 hp=>?_) fun _ _ q=>q)
   obtain ⟨src,H1,r1,c1,k1,all,hall,hf⟩:=hp
   refine comp_any c1 (aok.keep c.hp k1) hsc cs hall r1 (comp_body2 hx ht h2 h4) hf fun D' C acc H' s' _ gD gC hqf hD K CH SB hn hC=>?_
   exact ⟨hn.choose,hn.choose_spec,fun h' hs=>comp_end c1 k1 gC K CH SB hn hC hs (hqf D' hD)⟩
  exact ⟨main,fun Q X h=>plain_true rfl (main _ X h)⟩
theorem MapOf.keeps {h h':Heap} {a:Addr} {f:Str->Option Value} (x:h.MapOf (strKind prog w) a f) (k:∀b o,h.get? b=some o->h'.get? b=some o):h'.MapOf (strKind prog w) a f:=by
 obtain ⟨o,es,ep,e,r⟩:=x
 exact ⟨o,es,ep,k _ _ e,r⟩
theorem sndE_no {x:Ex} (h:∀sc vs e,chkE T sc vs x e=false):Snd prog w B T n x:=fun e sc env vs loc H A s hc=>absurd ((h sc vs e).symm.trans hc) Bool.false_ne_true
mutual
theorem snd (hB:BOk prog w B T):(x:Ex)->Snd prog w B T n x
 | .lit d=>snd_lit hB d
 | .var i=>snd_var i
 | .bin _ a b=>snd_bin (snd hB a) (snd hB b)
 | .not a=>snd_not (snd hB a)
 | .neg a=>snd_neg (snd hB a)
 | .cmp _ a b=>snd_cmp hB (snd hB a) (snd hB b)
 | .cmp2 _ _ a b c=>snd_cmp2 hB (snd hB a) (snd hB b) (snd hB c)
 | .and a b=>snd_and (snd hB a) (snd hB b)
 | .or a b=>snd_or (snd hB a) (snd hB b)
 | .item a i=>snd_item hB (snd hB a) (snd hB i)
 | .slice a lo hi=>snd_slice (snd hB a) (snd hB lo) (snd hB hi)
 | .tup l=>snd_tup (snds hB l)
 | .list l=>snd_list (snds hB l)
 | .call _ l=>snd_call hB (snds hB l)
 | .bi _ l=>snd_bi hB (snds hB l)
 | .meth _ o l=>snd_meth (snd hB o) (snds hB l)
 | .comp e it=>snd_comp (snd hB e) (snd hB it)
 | .compIf e it c=>snd_compIf (snd hB e) (snd hB it) (snd hB c)
 | .inTab _ _ e=>sndE_no fun _ _ _=>rfl
 | .itemTab _ e=>sndE_no fun _ _ _=>rfl
 | .zipl a b=>snd_zipl hB (snd hB a) (snd hB b)
 | .told o=>snd_told hB (snd hB o)
 | .mcall _ o l=>snd_mcall hB (snd hB o) (snds hB l)
 | .new=>snd_new hB
theorem snds (hB:BOk prog w B T):(l:List Ex)->(∀e∈l,Snd prog w B T n e)
 | []=>fun _ h=>nomatch h
 | a::l=>List.forall_mem_cons.mpr ⟨snd hB a,snds hB l⟩
end
end
end Mine
set_option Elab.async false
namespace Mine
open PySem PyProof.Rows
section
variable {prog:Program} {w:World} {B:Bs} {T:Tab} {n:Nat} {env:Env} {vs:List Str} {loc:Loc} {A:Around} {E:Value->Shared->Prop} {s:Shared} {H:Hp}
theorem RepO.presK {H H':Hp} {h h':Heap} {a:Addr} {ob:HObj} (k:ImmK h h') (ka:∀o,h.get? a=some o->∃o',h'.get? a=some o'/\KeepO o o')
  (kd:∀d t,ob=.robj d t->H' d=some (.aux a)/\∀o,h.get? d=some o->∃o',h'.get? d=some o'/\KeepO o o') (x:RepO B H h a ob):RepO B H' h' a ob:=by
 cases ob with
 | list l=>
  obtain ⟨us,k',e,hz,r⟩:=x
  obtain ⟨o',e',q⟩:=ka _ e
  rw [q.eq (by intro es m q;cases q)] at e'
  exact ⟨us,k',e',hz,r.pres k⟩
 | robj d t=>
  obtain ⟨o,C,e,c,c1,c2,c3,c4,c5,⟨o7,es7,ep7,e7,d7,r7⟩⟩:=(x:RoAt B H h a d t)
  obtain ⟨k1,k2⟩:=kd d t rfl
  obtain ⟨o',e',q⟩:=ka o e
  rw [q.eq (by intro es m q;rw [c3] at q;cases q)] at e'
  obtain ⟨od',ed',qd⟩:=k2 o7 e7
  exact RoAt.mk o C e' c c1 c2 c3 c4 k1 ⟨od',es7,ep7,ed',qd.data.trans d7,r7⟩
 | aux _=>
  obtain ⟨o,es,m,e,c⟩:=x
  obtain ⟨o',e',q⟩:=ka o e
  exact ⟨o',es,m,e',q.data.trans c⟩
theorem ConcH.presK {h h':Heap} (C:ConcH B H h) (k:ImmK h h') (kh:∀a ob o,H a=some ob->h.get? a=some o->∃o',h'.get? a=some o'/\KeepO o o'):ConcH B H h':=fun a ob e=>
 ⟨(C a ob e).1.presK k (fun o g=>kh a ob o e g) (fun d t q=>by
  subst q
  have hd:H d=some (.aux a):=RoAt.aux (C a _ e).1
  exact ⟨hd,fun o g=>kh d _ o hd g⟩),(C a ob e).2⟩
theorem RepO.kind {h:Heap} {a:Addr} {ob:HObj} {o:Obj} (x:RepO B H h a ob) (e:h.get? a=some o):∀us,o.data≠.fields us:=by
 intro us q
 cases ob with
 | list l=>obtain ⟨vs,n,e',_⟩:=x;obtain rfl:=Option.some.inj (e.symm.trans e');cases q
 | robj d t=>obtain ⟨o',C,e',c,r,dc,c3,_⟩:=(x:RoAt B H h a d t);rw [e] at e';cases e';rw [c3] at q;cases q
 | aux _=>obtain ⟨o',es,n,e',c⟩:=x;rw [e] at e';cases e';rw [c] at q;cases q
structure KeepX (B:Bs) (n0:Nat) (a:Addr) (s' s'':Shared):Prop where
 obj:∀b o,s'.heap.get? b=some o->(∀us,o.data≠.fields us)->∃o',s''.heap.get? b=some o'/\KeepO o o'
 low:∀b o,@LT.lt Nat _ b n0->s'.heap.get? b=some o->∃o',s''.heap.get? b=some o'/\KeepO o o'
 imm:ImmK s'.heap s''.heap
 base:∀b o,B.base.get? b=some o->s'.heap.get? b=some o->s''.heap.get? b=some o
 size:s'.heap.objs.size<=s''.heap.objs.size
 gens:s''.gens=s'.gens
 os:s''.os=s'.os
theorem KeepX.refl {n0:Nat} {a:Addr} {s':Shared}:KeepX B n0 a s' s':=⟨fun _ o e _=>⟨o,e,.refl o⟩,fun _ o _ e=>⟨o,e,.refl o⟩,.refl _,fun _ _ _ e=>e,Nat.le_refl _,rfl,rfl⟩
theorem KeepX.trans {n0:Nat} {a:Addr} {s1 s2 s3:Shared} (x:KeepX B n0 a s1 s2) (y:KeepX B n0 a s2 s3):KeepX B n0 a s1 s3:=
 ⟨fun b o e hn=>by
  obtain ⟨o',e',k⟩:=x.obj b o e hn
  obtain ⟨o'',e'',k'⟩:=y.obj b o' e' (fun us q=>hn us (k.data ▸ q))
  exact ⟨o'',e'',k.trans k'⟩,fun b o hl e=>by
  obtain ⟨o',e',k⟩:=x.low b o hl e
  obtain ⟨o'',e'',k'⟩:=y.low b o' hl e'
  exact ⟨o'',e'',k.trans k'⟩,x.imm.trans y.imm,fun b o hb e=>y.base b o hb (x.base b o hb e),Nat.le_trans x.size y.size,y.gens.trans x.gens,y.os.trans x.os⟩
theorem KeepX.conc {n0:Nat} {a:Addr} {s' s'':Shared} (x:KeepX B n0 a s' s'') (c:Conc B env vs loc H s'):Conc B env vs loc H s'':=by
 refine ⟨c.fr.pres x.imm fun b o hb e hn=>⟨x.obj b o e ?_,hn⟩,c.hp.presK x.imm fun b ob o e g=>x.obj b o g ((c.hp b ob e).1.kind g),fun b o e=>x.base b o e (c.base b o e)⟩
 rcases hb with rfl | ⟨y,hy⟩
 ·obtain ⟨m,⟨o',es,ep,e',hd,_⟩,_⟩:=c.fr.ns
  rw [e] at e';cases e'
  intro us q;rw [hd] at q;cases q
 ·obtain ⟨⟨ov,o',e',hd⟩,_⟩:=c.fr.cellsIn y b hy
  rw [e] at e';cases e'
  intro us q;rw [hd] at q;cases q
theorem KeepX.concH {n0:Nat} {a:Addr} {s' s'':Shared} (x:KeepX B n0 a s' s'') (c:ConcH B H s'.heap):ConcH B H s''.heap:=
 c.presK x.imm fun b ob o e g=>x.obj b o g ((c b ob e).1.kind g)
theorem KeepX.keep {own:Addr->Prop} {a:Addr} {H1 H':Hp} {s1 s' s'':Shared} (x:KeepX B s1.heap.objs.size a s' s'') (K:Keep own H1 s1 H' s'):Keep own H1 s1 H' s'':=
 ⟨fun b o e hn hw=>by
  obtain ⟨⟨o',e',k⟩,q⟩:=K.obj b o e hn hw
  obtain ⟨o'',e'',k'⟩:=x.low b o' (Heap.lt_size e) e'
  exact ⟨⟨o'',e'',k.trans k'⟩,q⟩,Nat.le_trans K.size x.size,x.gens.trans K.gens,x.os.trans K.os⟩
theorem KeepX.dict {a:Addr} {n0:Nat} {s' s'':Shared} (x:KeepX B n0 a s' s''):DictK H s'.heap H s''.heap:=fun b o es k e hd hn=>by
 obtain ⟨o',e',q⟩:=x.obj b o e (fun us q=>by rw [hd] at q;cases q)
 exact ⟨o',es,k,e',q.data.trans hd,hn⟩
noncomputable def ExcTb (B:Bs) (n0:Nat) (e:Addr) (c:Nat) (h:Heap):Prop:=
 ExcOk B n0 e c h/\∃o us T,h.get? e=some o/\o.data=.fields us/\us[1]?=some (.ref T)
theorem Ctx2.keepAt {h h':Heap} {a:Addr} {v:Value} (x:Ctx2 h a v) (k:∀o,h.get? a=some o->∃o',h'.get? a=some o'/\KeepI o o'):Ctx2 h' a v:=by
 obtain ⟨o,C,us,e,c,hd,hv⟩:=x
 obtain ⟨o',g',q⟩:=k o e
 rcases q with rfl | ⟨C',us,us',q1,q2,q3,q4,q5⟩
 ·exact ⟨o',C,us,g',c,hd,hv⟩
 ·rw [hd] at q3;cases q3
  exact ⟨o',C',us',g',q2,q4,(q5 2 (by decide)).trans hv⟩
theorem keepI_set1 {o:Obj} {us:Array Value} {C:Addr} {v:Value} (hc:o.cls=.ref C) (hd:o.data=.fields us):KeepI o (o.mapFields (·.setIfInBounds 1 v)):=
 Or.inr ⟨C,us,us.setIfInBounds 1 v,hc,(Obj.cls_mapFields ..).trans hc,hd,Obj.data_mapFields hd _,fun i hi=>by
  rw [Array.getElem?_setIfInBounds];rw [if_neg (Ne.symm hi)]⟩
theorem keepX_tb {n0:Nat} {a Tb:Addr} {oT:Obj} {f:Obj->Obj} {s':Shared} (hT:s'.heap.get? Tb=some oT) (hc:oT.cls=.type "traceback") {ts:Array Value} (hd:oT.data=.fields ts) (hge:@LE.le Nat _ n0 Tb) (hn0:∀b,@LE.le Nat _ n0 b->B.base.get? b=none) :
  KeepX B n0 a s' { s' with heap:=s'.heap.update Tb f } where
 obj:=fun b o e hn=>by
  have:Tb≠b:=fun q=>by subst q;rw [hT] at e;cases e;exact hn ts hd
  exact ⟨o,by show (s'.heap.update Tb f).get? b=_;rw [Heap.get?_update_other _ _ this];exact e,.refl o⟩
 low:=fun b o hl e=>by
  have:Tb≠b:=fun q=>by subst q;exact absurd hl (Nat.not_lt.mpr hge)
  exact ⟨o,by show (s'.heap.update Tb f).get? b=_;rw [Heap.get?_update_other _ _ this];exact e,.refl o⟩
 imm:=ImmK.but (Heap.SameBut.update ..).extBut fun o e=>by rw [hT] at e;cases e;exact fun q=>q.not_type (by decide) (by decide) hc
 base:=fun b o hbb e=>by
  have:Tb≠b:=fun q=>by subst q;rw [hn0 _ hge] at hbb;cases hbb
  show (s'.heap.update Tb f).get? b=_
  rw [Heap.get?_update_other _ _ this];exact e
 size:=by show _<=(s'.heap.update Tb f).objs.size;simp
 gens:=rfl
 os:=rfl
theorem ExcOk.keepTb {n0 e c Tb:Nat} {h:Heap} {oT:Obj} {ts:Array Value} {v:Value} {i:Nat} (x:ExcOk B n0 e c h) (hT:h.get? Tb=some oT) (hcT:oT.cls=.type "traceback") (hd:oT.data=.fields ts) :
  ExcOk B n0 e c (h.update Tb (Obj.mapFields (·.setIfInBounds i v))):=by
 obtain ⟨h1,o,us,C,h2,h3,h4,h5,h6,h7,h8⟩:=x
 have hne:Tb≠e:=fun q=>by subst q;rw [hT] at h2;cases h2;rw [hcT] at h3;cases h3
 refine ⟨h1,o,us,C,by rw [Heap.get?_update_other _ _ hne];exact h2,h3,h4,h5,h6,?_,h8.pres (ImmK.but (Heap.SameBut.update ..).extBut fun o e=>by rw [hT] at e;cases e;exact fun q=>q.not_type (by decide) (by decide) hcT)⟩
 rcases h7 with h7 | ⟨T',oT',ts',q1,q2,q3,q4,q5,q6,q7⟩
 ·exact Or.inl h7
 ·right
  by_cases q:T'=Tb
  ·subst q
   rw [hT] at q4;cases q4
   rw [hd] at q6;cases q6
   exact ⟨T',_,_,q1,q2,q3,Heap.get?_update_self _ hT (Obj.isFreed_of_fields (Obj.data_mapFields hd _)),(Obj.cls_mapFields ..).trans hcT,Obj.data_mapFields hd _,by simpa using q7⟩
  ·exact ⟨T',oT',ts',q1,q2,q3,by rw [Heap.get?_update_other _ _ (Ne.symm q)];exact q4,q5,q6,q7⟩
theorem flight_sound {n0:Nat} {a:Addr} {c:Nat} {M:Model} {fl:Option Addr} {Q:Unit->Shared->Prop} (x:ExcOk B n0 a c s.heap) (hn0:∀b,@LE.le Nat _ n0 b->B.base.get? b=none)
  (hQ:∀s'',KeepX B n0 a s s''->ExcOk B n0 a c s''.heap->(ExcTb B n0 a c s.heap->ExcTb B n0 a c s''.heap)->Q () s''):wpAny M A (setFlight (.ref a) fl) Q E s:=by
 have x':=x
 obtain ⟨h1,o,us,C,h2,h3,h4,h5,h6,h7,h8⟩:=x
 unfold setFlight
 rcases h7 with h7 | ⟨Tb,oT,ts,q1,q2,q3,q4,q5,q6,q7⟩
 ·refine wpAny_bind (wpAny_field h2 h5 h7 ?_)
  rw [if_neg (by decide)]
  exact wpAny_pure (hQ s .refl x' fun y=>y)
 ·refine wpAny_bind (wpAny_field h2 h5 q1 ?_)
  rw [if_pos (by simp)]
  refine wpAny_setField q4 q6 q7 ?_
  refine hQ _ (keepX_tb q4 q5 q6 q2 hn0) (x'.keepTb q4 q5 q6) fun _=>⟨x'.keepTb q4 q5 q6,o,us,Tb,?_,h5,q1⟩
  rw [Heap.get?_update_other _ _ q3];exact h2
theorem FramesOk.fun {l:List Env} {h:Heap} (x:FramesOk B l H h):h.FunFrames B.base l:=by
 induction l with
 | nil=>trivial
 | cons e r ih=>
  obtain ⟨h1,L,o,es,m,h2,h3,h4,h5,h6⟩:=x e (by simp)
  exact ⟨h1,⟨L,o,h2,h3,h5,fun us q=>by rw [h6] at q;cases q⟩,ih fun e' he'=>x e' (by simp [he'])⟩
theorem FramesOk.at {l:List Env} {h:Heap} (x:FramesOk B l H h) {b:Addr} (hb:b∈l.filterMap (·.frame)):B.base.get? b=none/\∃o es m,h.get? b=some o/\o.data=.dict es m:=by
 obtain ⟨e,he,hf⟩:=List.mem_filterMap.mp hb
 obtain ⟨h1,L,o,es,m,h2,h3,h4,h5,h6⟩:=x e he
 rw [hf] at h2;cases h2
 exact ⟨h3,o,es,m,h5,h6⟩
theorem entry_sound {n0:Nat} {a L:Addr} {c:Nat} {M:Model} {outer:List Env} {head:Value} {hadNext:Bool} {Q:Unit->Shared->Prop} (hfr:A.frames=some (env::outer)) (hfo:FramesOk B (env::outer) H s.heap) (hf:env.frame=some L)
  (x:ExcOk B n0 a c s.heap) (hn0:∀b,@LE.le Nat _ n0 b->B.base.get? b=none) (hQ:∀s'',KeepX B n0 a s s''->ExcTb B n0 a c s''.heap->Q () s'') :
  wpAny M A (do let fr <-frameOf env;let pl <-entryPlaceOf L hadNext;let b <-EntryCells.newEntry head fr .none (rawInt L) .none pl;setField (.ref a) 1 b) Q E s:=by
 obtain ⟨h1,o,us,C,h2,h3,h4,h5,h6,h7,h8⟩:=x
 refine wpAny_bind (wpAny_frameOf_fun hfr hfo.fun hf fun g1 hs1=>?_)
 refine wpAny_bind (wpAny_entryPlaceOf fun pl hpl=>?_)
 unfold EntryCells.newEntry newFields
 refine wpAny_bind (wpAny_newObj_type ?_ (hpl.sizeOk5 _ _ _ _ _))
 have notfr:∀b o',s.heap.get? b=some o'->(∀es m,o'.data≠.dict es m)->b∉(env::outer).filterMap (·.frame):=fun b o' e hd hm=>by
  obtain ⟨_,o'',es,m,e',hd'⟩:=hfo.at hm
  rw [e] at e';cases e';exact hd es m hd'
 have ha1:g1.get? a=some o:=(hs1.2.1 a (notfr a o h2 (by intro es m q;rw [h5] at q;cases q))).trans h2
 have k1:∀b o',s.heap.get? b=some o'->∃o'',g1.get? b=some o''/\KeepO o' o'':=fun b o' e=>by
  by_cases hm:b∈(env::outer).filterMap (·.frame)
  ·obtain ⟨_,o2,es,m,e2,hd2⟩:=hfo.at hm
   rw [e] at e2;cases e2
   obtain ⟨sl,hsl⟩:=hs1.2.2 b o' e
   exact ⟨_,hsl,Or.inr ⟨⟨es,m,hd2⟩,sl,rfl⟩⟩
  ·exact ⟨o',(hs1.2.1 b hm).trans e,.refl o'⟩
 generalize hob:({ cls:=.type "traceback",dict:=none,data:=.fields ([head,.ref L,.none,rawInt L,.none]++(if pl.isEmpty then List.replicate 6 Value.none else pl)).toArray }:Obj)=tb
 have ha2:(g1.push tb).get? a=some o:=Heap.get?_push_of_some _ ha1
 refine wpAny_setField ha2 h5 (by exact jk29 h6) ?_
 have hTa:a≠g1.objs.size:=Nat.ne_of_lt (Heap.lt_size ha1)
 have hsz:g1.objs.size=s.heap.objs.size:=hs1.1
 have hge:@LE.le Nat _ n0 g1.objs.size:=by
  have:=Nat.lt_of_lt_of_le (Heap.lt_size h2) (Nat.le_refl _)
  have:=Nat.le_trans h1 (Nat.le_refl _)
  exact jl3 (jc4 _ _ _ _) j0 j2 j3 j1 (jA j2 (jK 1)) j3 j0 j1 rfl h1 (Nat.le_of_eq (Eq.symm hsz)) ‹_›
 have other:∀b o',b≠a->g1.get? b=some o'->((g1.push tb).update a (Obj.mapFields (·.setIfInBounds 1 (Value.ref g1.objs.size)))).get? b=some o':=fun b o' hb e=>by
  rw [Heap.get?_update_other _ _ (Ne.symm hb)];exact Heap.get?_push_of_some _ e
 have haN:((g1.push tb).update a (Obj.mapFields (·.setIfInBounds 1 (Value.ref g1.objs.size)))).get? a=some (o.mapFields (·.setIfInBounds 1 (Value.ref g1.objs.size))):=
  Heap.get?_update_self _ ha2 (Obj.isFreed_of_fields (Obj.data_mapFields h5 _))
 have hTn:((g1.push tb).update a (Obj.mapFields (·.setIfInBounds 1 (Value.ref g1.objs.size)))).get? g1.objs.size=some tb:=by
  rw [Heap.get?_update_other _ _ hTa];exact Heap.get?_push_size _ (by rw [<-hob];rfl)
 have K:KeepX B n0 a s { s with heap:=(g1.push tb).update a (Obj.mapFields (·.setIfInBounds 1 (Value.ref g1.objs.size))) }:=by
  refine ⟨fun b o' e hn=>?_,fun b o' hl e=>?_,fun b o' e i=>?_,fun b o' hbb e=>?_,?_,rfl,rfl⟩
  ·have hb:b≠a:=fun q=>by subst q;rw [h2] at e;cases e;exact hn us h5
   obtain ⟨o'',e'',k⟩:=k1 b o' e
   exact ⟨o'',other b o'' hb e'',k⟩
  ·have hb:b≠a:=fun q=>by subst q;exact absurd hl (Nat.not_lt.mpr h1)
   obtain ⟨o'',e'',k⟩:=k1 b o' e
   exact ⟨o'',other b o'' hb e'',k⟩
  ·by_cases hb:b=a
   ·subst hb
    rw [h2] at e;cases e
    exact ⟨_,haN,keepI_set1 h3 h5⟩
   ·obtain ⟨o'',e'',k⟩:=k1 b o' e
    rw [k.eq i.not_dict] at e''
    exact ⟨o',other b o' hb e'',.refl o'⟩
  ·have hb:b≠a:=fun q=>by subst q;rw [hn0 _ h1] at hbb;cases hbb
   have hm:b∉(env::outer).filterMap (·.frame):=fun hm=>by
    rw [(hfo.at hm).1] at hbb;cases hbb
   exact other b o' hb ((hs1.2.1 b hm).trans e)
  ·show s.heap.objs.size<=((g1.push tb).update a _).objs.size
   simp only [Heap.size_after_update,Heap.size_push];exact jl1 (jc2 _ _) j0 j1 j0 (jA j1 (jK 1)) rfl (Nat.le_of_eq (Eq.symm hsz))
 refine hQ _ K ⟨⟨h1,_,_,C,haN,(Obj.cls_mapFields ..).trans h3,h4,Obj.data_mapFields h5 _,by simpa using h6,Or.inr ⟨g1.objs.size,tb,([head,.ref L,.none,rawInt L,.none]++(if pl.isEmpty then List.replicate 6 Value.none else pl)).toArray,?_,hge,Ne.symm hTa,hTn,by rw [<-hob],by rw [<-hob],?_⟩,h8.pres K.imm⟩,_,_,g1.objs.size,haN,Obj.data_mapFields h5 _,?_⟩
 ·rw [Array.getElem?_setIfInBounds];simp;exact jk29 h6
 ·simp only [List.size_toArray,List.length_append,List.length_cons,List.length_nil];exact jl0 (jc1 _) (jA (jK 3) (jK 1)) (jA (jA (jA (jA (jA (jA (jK 0) (jK 1)) (jK 1)) (jK 1)) (jK 1)) (jK 1)) j0) rfl
 ·rw [Array.getElem?_setIfInBounds];simp;exact jk29 h6
theorem note_sound {n0:Nat} {a L:Addr} {c:Nat} {M:Model} {outer:List Env} {Q:Unit->Shared->Prop} (hfr:A.frames=some (env::outer)) (hfo:FramesOk B (env::outer) H s.heap) (hf:env.frame=some L)
  (x:ExcOk B n0 a c s.heap) (hn0:∀b,@LE.le Nat _ n0 b->B.base.get? b=none) (hQ:∀s'',KeepX B n0 a s s''->ExcTb B n0 a c s''.heap->Q () s'') :
  wpAny M A (noteFrame (.ref a) env) Q E s:=by
 have x':=x
 obtain ⟨h1,o,us,C,h2,h3,h4,h5,h6,h7,h8⟩:=x
 unfold noteFrame
 simp only [hf]
 rcases h7 with h7 | ⟨Tb,oT,ts,q1,q2,q3,q4,q5,q6,q7⟩
 ·refine wpAny_bind (wpAny_field h2 h5 h7 ?_)
  rw [if_neg (by decide)]
  exact entry_sound hfr hfo hf x' hn0 hQ
 ·refine wpAny_bind (wpAny_field h2 h5 q1 ?_)
  rw [if_pos (show (Value.ref Tb != Value.none)=true from by simp)]
  obtain ⟨v3,hv3⟩:∃v,ts[3]?=some v:=⟨ts[3],Array.getElem?_eq_getElem q7⟩
  refine wpAny_bind (wpAny_field q4 q6 hv3 ?_)
  by_cases hq:(v3==rawInt L)=true
  ·rw [if_pos hq]
   exact wpAny_pure (hQ s .refl ⟨x',o,us,Tb,h2,h5,q1⟩)
  ·rw [if_neg hq]
   refine wpAny_bind (wpAny_setField q4 q6 q7 ?_)
   have K:=keepX_tb (a:=a) (f:=Obj.mapFields (·.setIfInBounds 3 Value.none)) q4 q5 q6 q2 hn0
   have hfo':FramesOk B (env::outer) H ({ s with heap:=s.heap.update Tb (Obj.mapFields (·.setIfInBounds 3 Value.none)) }:Shared).heap:=fun e he=>by
    obtain ⟨f1,L',o',es,m,f2,f3,f4,f5,f6⟩:=hfo e he
    obtain ⟨o'',es',m',g1,g2,g3⟩:=K.dict (H:=H) L' o' es m f5 f6 f4
    exact ⟨f1,L',o'',es',m',f2,f3,g3,g1,g2⟩
   exact entry_sound (s:={ s with heap:=s.heap.update Tb (Obj.mapFields (·.setIfInBounds 3 Value.none)) }) hfr hfo' hf (x'.keepTb q4 q5 q6) hn0 fun s'' K' t=>hQ s'' (K.trans K') t
end
end Mine
set_option Elab.async false
namespace Mine
open PySem PyProof.Rows
noncomputable def kindStore:Option NameKind->Bool
 | some .local=>true
 | some .cell=>true
 | _=>false
noncomputable def storeOk (sc:List (Str×NameKind)) (vs:List Str) (x:Str) (i:Nat):Bool:=kindStore (sc.lookup x)&&(ix vs x==some i)
noncomputable def namesOk (sc:List (Str×NameKind)) (vs:List Str):List Nat->List Expr->Bool
 | [],ts=>match ts with | []=>true | _=>false
 | i::is,ts=>match ts with
  | t::r=>(onName t fun x _=>storeOk sc vs x i)&&namesOk sc vs is r
  | []=>false
noncomputable def notComp:Expr->Bool
 | .ListComp ..=>false
 | .SetComp ..=>false
 | .DictComp ..=>false
 | _=>true
noncomputable def notTuple:Expr->Bool
 | .Tuple ..=>false
 | _=>true
noncomputable def vOk (sc:List (Str×NameKind)) (vs:List Str):Option Nat->Option Str->Bool
 | none,none=>true
 | some i,some x=>storeOk sc vs x i&&(sc.lookup x==some .local)
 | _,_=>false
noncomputable def stReturn (e:Stmt) (k:Option Expr->Pos->Bool):Bool:=if h:e.ctorIdx=3 then @Stmt.Return.elim (fun _=>Bool) e h k else false
@[elab_as_elim] theorem jReturn {P:Stmt->Prop} {e:Stmt} {k:Option Expr->Pos->Bool} (h:stReturn e k=true) (c:∀x0 x1,k x0 x1=true->P (.Return x0 x1)):P e:=
 on_split h fun q h=>@Stmt.Return.elim (fun e=>∀q,@Stmt.Return.elim (fun _=>Bool) e q k=true->P e) e q (fun x0 x1 _ h=>c x0 x1 h) q h
noncomputable def stAssign (e:Stmt) (k:List Expr->Expr->Pos->Bool):Bool:=if h:e.ctorIdx=5 then @Stmt.Assign.elim (fun _=>Bool) e h k else false
@[elab_as_elim] theorem jAssign {P:Stmt->Prop} {e:Stmt} {k:List Expr->Expr->Pos->Bool} (h:stAssign e k=true) (c:∀x0 x1 x2,k x0 x1 x2=true->P (.Assign x0 x1 x2)):P e:=
 on_split h fun q h=>@Stmt.Assign.elim (fun e=>∀q,@Stmt.Assign.elim (fun _=>Bool) e q k=true->P e) e q (fun x0 x1 x2 _ h=>c x0 x1 x2 h) q h
noncomputable def stFor (e:Stmt) (k:Expr->Expr->List Stmt->List Stmt->Pos->Bool):Bool:=if h:e.ctorIdx=9 then @Stmt.For.elim (fun _=>Bool) e h k else false
@[elab_as_elim] theorem jFor {P:Stmt->Prop} {e:Stmt} {k:Expr->Expr->List Stmt->List Stmt->Pos->Bool} (h:stFor e k=true) (c:∀x0 x1 x2 x3 x4,k x0 x1 x2 x3 x4=true->P (.For x0 x1 x2 x3 x4)):P e:=
 on_split h fun q h=>@Stmt.For.elim (fun e=>∀q,@Stmt.For.elim (fun _=>Bool) e q k=true->P e) e q (fun x0 x1 x2 x3 x4 _ h=>c x0 x1 x2 x3 x4 h) q h
noncomputable def stWhile (e:Stmt) (k:Expr->List Stmt->List Stmt->Pos->Bool):Bool:=if h:e.ctorIdx=11 then @Stmt.While.elim (fun _=>Bool) e h k else false
@[elab_as_elim] theorem jWhile {P:Stmt->Prop} {e:Stmt} {k:Expr->List Stmt->List Stmt->Pos->Bool} (h:stWhile e k=true) (c:∀x0 x1 x2 x3,k x0 x1 x2 x3=true->P (.While x0 x1 x2 x3)):P e:=
 on_split h fun q h=>@Stmt.While.elim (fun e=>∀q,@Stmt.While.elim (fun _=>Bool) e q k=true->P e) e q (fun x0 x1 x2 x3 _ h=>c x0 x1 x2 x3 h) q h
noncomputable def stIf (e:Stmt) (k:Expr->List Stmt->List Stmt->Pos->Bool):Bool:=if h:e.ctorIdx=12 then @Stmt.If.elim (fun _=>Bool) e h k else false
@[elab_as_elim] theorem jIf {P:Stmt->Prop} {e:Stmt} {k:Expr->List Stmt->List Stmt->Pos->Bool} (h:stIf e k=true) (c:∀x0 x1 x2 x3,k x0 x1 x2 x3=true->P (.If x0 x1 x2 x3)):P e:=
 on_split h fun q h=>@Stmt.If.elim (fun e=>∀q,@Stmt.If.elim (fun _=>Bool) e q k=true->P e) e q (fun x0 x1 x2 x3 _ h=>c x0 x1 x2 x3 h) q h
noncomputable def stRaise (e:Stmt) (k:Option Expr->Option Expr->Pos->Bool):Bool:=if h:e.ctorIdx=16 then @Stmt.Raise.elim (fun _=>Bool) e h k else false
@[elab_as_elim] theorem jRaise {P:Stmt->Prop} {e:Stmt} {k:Option Expr->Option Expr->Pos->Bool} (h:stRaise e k=true) (c:∀x0 x1 x2,k x0 x1 x2=true->P (.Raise x0 x1 x2)):P e:=
 on_split h fun q h=>@Stmt.Raise.elim (fun e=>∀q,@Stmt.Raise.elim (fun _=>Bool) e q k=true->P e) e q (fun x0 x1 x2 _ h=>c x0 x1 x2 h) q h
noncomputable def stTry (e:Stmt) (k:List Stmt->List ExceptHandler->List Stmt->List Stmt->Pos->Bool):Bool:=if h:e.ctorIdx=17 then @Stmt.Try.elim (fun _=>Bool) e h k else false
@[elab_as_elim] theorem jTry {P:Stmt->Prop} {e:Stmt} {k:List Stmt->List ExceptHandler->List Stmt->List Stmt->Pos->Bool} (h:stTry e k=true) (c:∀x0 x1 x2 x3 x4,k x0 x1 x2 x3 x4=true->P (.Try x0 x1 x2 x3 x4)):P e:=
 on_split h fun q h=>@Stmt.Try.elim (fun e=>∀q,@Stmt.Try.elim (fun _=>Bool) e q k=true->P e) e q (fun x0 x1 x2 x3 x4 _ h=>c x0 x1 x2 x3 x4 h) q h
noncomputable def stExpr (e:Stmt) (k:Expr->Pos->Bool):Bool:=if h:e.ctorIdx=24 then @Stmt.Expr.elim (fun _=>Bool) e h k else false
@[elab_as_elim] theorem jExpr {P:Stmt->Prop} {e:Stmt} {k:Expr->Pos->Bool} (h:stExpr e k=true) (c:∀x0 x1,k x0 x1=true->P (.Expr x0 x1)):P e:=
 on_split h fun q h=>@Stmt.Expr.elim (fun e=>∀q,@Stmt.Expr.elim (fun _=>Bool) e q k=true->P e) e q (fun x0 x1 _ h=>c x0 x1 h) q h
noncomputable def stBreak (e:Stmt) (k:Pos->Bool):Bool:=if h:e.ctorIdx=26 then @Stmt.Break.elim (fun _=>Bool) e h k else false
@[elab_as_elim] theorem jBreak {P:Stmt->Prop} {e:Stmt} {k:Pos->Bool} (h:stBreak e k=true) (c:∀x0,k x0=true->P (.Break x0)):P e:=
 on_split h fun q h=>@Stmt.Break.elim (fun e=>∀q,@Stmt.Break.elim (fun _=>Bool) e q k=true->P e) e q (fun x0 _ h=>c x0 h) q h
noncomputable def stContinue (e:Stmt) (k:Pos->Bool):Bool:=if h:e.ctorIdx=27 then @Stmt.Continue.elim (fun _=>Bool) e h k else false
@[elab_as_elim] theorem jContinue {P:Stmt->Prop} {e:Stmt} {k:Pos->Bool} (h:stContinue e k=true) (c:∀x0,k x0=true->P (.Continue x0)):P e:=
 on_split h fun q h=>@Stmt.Continue.elim (fun e=>∀q,@Stmt.Continue.elim (fun _=>Bool) e q k=true->P e) e q (fun x0 _ h=>c x0 h) q h
noncomputable def onSome {α:Type} (o:Option α) (k:α->Bool):Bool:=match o with | some x=>k x | none=>false
@[elab_as_elim] theorem iSome {α:Type} {P:Option α->Prop} {o:Option α} {k:α->Bool} (h:onSome o k=true) (c:∀x,k x=true->P (some x)):P o:=by
 cases o <;> first | exact c _ h | exact absurd h Bool.false_ne_true
noncomputable def onNone {α:Type} (o:Option α):Bool:=match o with | some _=>false | none=>true
@[elab_as_elim] theorem iNone {α:Type} {P:Option α->Prop} {o:Option α} (h:onNone o=true) (c:P none):P o:=by
 cases o <;> first | exact c | exact absurd h Bool.false_ne_true
noncomputable def isStr (c:Const) (k:Str->Bool):Bool:=match c with | .str s=>k s | _=>false
@[elab_as_elim] theorem iStr {P:Const->Prop} {c:Const} {k:Str->Bool} (h:isStr c k=true) (f:∀x,k x=true->P (.str x)):P c:=by
 cases c <;> first | exact f _ h | exact absurd h Bool.false_ne_true
mutual
noncomputable def chkS (T:Tab) (sc:List (Str×NameKind)) (vs:List Str):St->Stmt->Bool
 | .assign i e,s=>stAssign s fun ts v _=>on1 ts fun tg=>onName tg fun x _=>storeOk sc vs x i&&chkE T sc vs e v
 | .assignT is e,s=>stAssign s fun ts v _=>on1 ts fun tg=>onTuple tg fun ts _ _=>namesOk sc vs is ts&&chkE T sc vs e v&&notTuple v
 | .setItem a i e,s=>stAssign s fun ts v _=>on1 ts fun tg=>onSubscript tg fun o k _=>chkE T sc vs e v&&chkE T sc vs a o&&chkE T sc vs i k&&notSlice k
 | .setTold a e,s=>stAssign s fun ts v _=>on1 ts fun tg=>onAttribute tg fun o x _=>(x==told)&&chkE T sc vs e v&&chkE T sc vs a o
 | .expr e,s=>stExpr s fun v _=>chkE T sc vs e v&&notComp v
 | .ret e,s=>stReturn s fun v _=>match v with
  | some v=>chkE T sc vs e v
  | none=>isNoLit e
 | .ite c a b,s=>stIf s fun t x y _=>chkE T sc vs c t&&chkSs T sc vs a x&&chkSs T sc vs b y
 | .forS i it body,s=>stFor s fun tg iter b els _=>onNil els&&onName tg fun x _=>storeOk sc vs x i&&chkE T sc vs it iter&&chkSs T sc vs body b
 | .whileS c body,s=>stWhile s fun t b els _=>onNil els&&(chkE T sc vs c t&&chkSs T sc vs body b)
 | .brk,s=>stBreak s fun _=>true
 | .cont,s=>stContinue s fun _=>true
 | .raise k,s=>stRaise s fun ex ca _=>onNone ca&&onSome ex fun ex=>onCall ex fun f xs kw _=>onNil kw&&onName f fun x _=>on1 xs fun m=>onConstant m fun m _ _=>isStr m fun m=>(T.clss.lookup x==some k)&&decide (k<=6)&&isGlob sc x&&notBarred x&&litOk (.str m) (.str m.cps.toList)
 | .tryS body hs,s=>stTry s fun b xs els fin _=>onNil els&&onNil fin&&(match xs with
  | []=>false
  | h::r=>chkSs T sc vs body b&&chkHs T sc vs hs (h::r))
noncomputable def chkSs (T:Tab) (sc:List (Str×NameKind)) (vs:List Str):List St->List Stmt->Bool
 | [],ss=>match ss with | []=>true | _=>false
 | x::xs,ss=>match ss with
  | s::r=>chkS T sc vs x s&&chkSs T sc vs xs r
  | []=>false
noncomputable def chkHs (T:Tab) (sc:List (Str×NameKind)) (vs:List Str):List Hd->List ExceptHandler->Bool
 | [],hs=>match hs with | []=>true | _=>false
 | .mk k v b::xs,hs=>match hs with
  | .ExceptHandler ty name body _::r=>onSome ty fun ty=>onName ty fun x _=>(T.clss.lookup x==some k)&&decide (k<=6)&&isGlob sc x&&notBarred x&&vOk sc vs v name&&chkSs T sc vs b body&&(body.length > 0)&&chkHs T sc vs xs r
  | []=>false
end
section
variable {T:Tab} {sc:List (Str×NameKind)} {vs:List Str} {P:Stmt->Prop} {s:Stmt}
@[elab_as_elim] theorem invS_assign {i:Nat} {e:Ex} (hc:chkS T sc vs (.assign i e) s=true) (h:∀x p v q,storeOk sc vs x i=true->chkE T sc vs e v=true->P (.Assign [.Name x p] v q)):P s:=by
 exact jAssign hc fun _ _ _ q=>i1 q fun _ q=>iName q fun _ _ q=>and2 q (h _ _ _ _)
@[elab_as_elim] theorem invS_assignT {is:List Nat} {e:Ex} (hc:chkS T sc vs (.assignT is e) s=true) (h:∀ts k p v q,namesOk sc vs is ts=true->chkE T sc vs e v=true->notTuple v=true->P (.Assign [.Tuple ts k p] v q)):P s:=by
 exact jAssign hc fun _ _ _ q=>i1 q fun _ q=>iTuple q fun _ _ _ q=>and3 q (h _ _ _ _ _)
@[elab_as_elim] theorem invS_setItem {a i e:Ex} (hc:chkS T sc vs (.setItem a i e) s=true) (h:∀o k p v q,chkE T sc vs e v=true->chkE T sc vs a o=true->chkE T sc vs i k=true->notSlice k=true->P (.Assign [.Subscript o k p] v q)):P s:=by
 exact jAssign hc fun _ _ _ q=>i1 q fun _ q=>iSubscript q fun _ _ _ q=>and4 q (h _ _ _ _ _)
@[elab_as_elim] theorem invS_expr {e:Ex} (hc:chkS T sc vs (.expr e) s=true) (h:∀v p,chkE T sc vs e v=true->notComp v=true->P (.Expr v p)):P s:=by
 exact jExpr hc fun _ _ q=>and2 q (h _ _)
@[elab_as_elim] theorem invS_ret {e:Ex} (hc:chkS T sc vs (.ret e) s=true) (h:∀v p,chkE T sc vs e v=true->P (.Return (some v) p)) (h0:∀p,e=.lit .none->P (.Return none p)):P s:=by
 refine jReturn hc fun v p q=>?_
 cases v with
 | some v=>exact h _ _ q
 | none=>exact h0 _ (noLit_eq q)
@[elab_as_elim] theorem invS_ite {c:Ex} {a b:List St} (hc:chkS T sc vs (.ite c a b) s=true) (h:∀t x y p,chkE T sc vs c t=true->chkSs T sc vs a x=true->chkSs T sc vs b y=true->P (.If t x y p)):P s:=by
 exact jIf hc fun _ _ _ _ q=>and3 q (h _ _ _ _)
@[elab_as_elim] theorem invS_for {i:Nat} {it:Ex} {body:List St} (hc:chkS T sc vs (.forS i it body) s=true) (h:∀x np iter b p,storeOk sc vs x i=true->chkE T sc vs it iter=true->chkSs T sc vs body b=true->P (.For (.Name x np) iter b [] p)):P s:=by
 exact jFor hc fun _ _ _ _ _ q=>and2 q fun a q=>iNil a (iName q fun _ _ q=>and3 q (h _ _ _ _ _))
@[elab_as_elim] theorem invS_while {c:Ex} {body:List St} (hc:chkS T sc vs (.whileS c body) s=true) (h:∀t b p,chkE T sc vs c t=true->chkSs T sc vs body b=true->P (.While t b [] p)):P s:=by
 exact jWhile hc fun _ _ _ _ q=>and2 q fun a q=>iNil a (and2 q (h _ _ _))
@[elab_as_elim] theorem invS_brk (hc:chkS T sc vs .brk s=true) (h:∀p,P (.Break p)):P s:=by
 exact jBreak hc fun _ _=>h _
@[elab_as_elim] theorem invS_cont (hc:chkS T sc vs .cont s=true) (h:∀p,P (.Continue p)):P s:=by
 exact jContinue hc fun _ _=>h _
@[elab_as_elim] theorem invS_raise {k:Nat} (hc:chkS T sc vs (.raise k) s=true) (h:∀x np m u mp cp p,T.clss.lookup x=some k->k<=6->isGlob sc x=true->notBarred x=true->litOk (.str m) (.str m.cps.toList)=true ->
  P (.Raise (some (.Call (.Name x np) [.Constant (.str m) u mp] [] cp)) none p)):P s:=by
 exact jRaise hc fun _ _ _ q=>and2 q fun a q=>iNone a (iSome q fun _ q=>iCall q fun _ _ _ _ q=>and2 q fun a q=>iNil a (iName q fun _ _ q=>i1 q fun _ q=>iConstant q fun _ _ _ q=>iStr q fun _ q=>and5 q fun x y=>h _ _ _ _ _ _ _ (eq_of_beq x) (of_decide_eq_true y)))
@[elab_as_elim] theorem invS_try {body:List St} {hs:List Hd} (hc:chkS T sc vs (.tryS body hs) s=true) (h:∀b x r p,chkSs T sc vs body b=true->chkHs T sc vs hs (x::r)=true->P (.Try b (x::r) [] [] p)):P s:=by
 refine jTry hc fun _ xs _ _ _ q=>and3 q fun a b q=>iNil a (iNil b ?_)
 cases xs <;> first | exact absurd q Bool.false_ne_true | exact and2 q (h _ _ _ _)
@[elab_as_elim] theorem invS_told {a e:Ex} (hc:chkS T sc vs (.setTold a e) s=true) (h:∀o p v q,chkE T sc vs e v=true->chkE T sc vs a o=true->P (.Assign [.Attribute o told p] v q)):P s:=by
 exact jAssign hc fun _ _ _ q=>i1 q fun _ q=>iAttribute q fun _ _ _ q=>and3 q fun q1 q2 q3=>by obtain rfl:=eq_of_beq q1;exact h _ _ _ _ q2 q3
@[elab_as_elim] theorem invSs_nil {P:List Stmt->Prop} {l:List Stmt} (hc:chkSs T sc vs [] l=true) (h:P []):P l:=by
 cases l <;> first | exact absurd hc Bool.false_ne_true | exact h
@[elab_as_elim] theorem invSs_cons {P:List Stmt->Prop} {l:List Stmt} {x:St} {xs:List St} (hc:chkSs T sc vs (x::xs) l=true) (h:∀s r,chkS T sc vs x s=true->chkSs T sc vs xs r=true->P (s::r)):P l:=by
 cases l <;> first | exact absurd hc Bool.false_ne_true | exact and2 hc (h _ _)
@[elab_as_elim] theorem invHs_cons {P:List ExceptHandler->Prop} {l:List ExceptHandler} {k:Nat} {v:Option Nat} {b:List St} {xs:List Hd} (hc:chkHs T sc vs (.mk k v b::xs) l=true)
  (h:∀x np name b0 body p r,T.clss.lookup x=some k->k<=6->isGlob sc x=true->notBarred x=true->vOk sc vs v name=true->chkSs T sc vs b (b0::body)=true->chkHs T sc vs xs r=true->P (.ExceptHandler (some (.Name x np)) name (b0::body) p::r)):P l:=by
 cases l <;> try exact absurd hc Bool.false_ne_true
 rename_i x0 r
 obtain ⟨ty,name,body,p⟩:=x0
 refine iSome (o:=ty) (P:=fun ty=>P (.ExceptHandler ty name body p::r)) hc fun ty hc=>?_
 exact iName (e:=ty) (P:=fun ty=>P (.ExceptHandler (some ty) name body p::r)) hc fun x0 np hc=>and2 hc fun hc h8=>and2 hc fun hc h7=>and2 hc fun hc h6=>and5 hc fun x y z u w=>by
  cases body with
  | nil=>exact absurd h7 (by simp)
  | cons b0 body=>exact h _ _ _ _ _ _ _ (eq_of_beq x) (of_decide_eq_true y) z u w h6 h8
end
noncomputable def FlOk (B:Bs) (h:Heap):Fl->Flow->Prop
 | .next,f=>f=.next
 | .brk,f=>f=.brk
 | .cont,f=>f=.cont
 | .ret d,f=>∃v,f=.ret v/\Rep B h d v
structure KeepS (env:Env) (H:Hp) (s:Shared) (H':Hp) (s':Shared):Prop where
 keep:Keep (own env) H s H' s'
 dict:DictK H s.heap H' s'.heap
theorem KeepS.refl {env:Env} {H:Hp} {s:Shared}:KeepS env H s H s:=⟨.refl,.refl _ _⟩
theorem KeepS.trans {env:Env} {H H' H'':Hp} {s s' s'':Shared} (x:KeepS env H s H' s') (y:KeepS env H' s' H'' s''):KeepS env H s H'' s'':=⟨x.keep.trans y.keep,x.dict.trans y.dict⟩
theorem KeepS.of_keep {env:Env} {H H':Hp} {s s':Shared} (x:Keep noOwn H s H' s'):KeepS env H s H' s':=⟨x.weaken fun _ q=>q.elim,.of_keep x⟩
inductive SPost (B:Bs) (env:Env) (vs:List Str) (H:Hp) (s:Shared) (Q:Fl->Loc->Hp->Prop) (f:Flow) (s':Shared):Prop
 | mk (fl:Fl) (loc':Loc) (H':Hp) (f1:FlOk B s'.heap fl f) (c:Conc B env vs loc' H' s') (k:KeepS env H s H' s') (q:Q fl loc' H')
inductive SExc (B:Bs) (env:Env) (vs:List Str) (H:Hp) (s:Shared) (X:Nat->Loc->Hp->Prop) (e:Value) (s':Shared):Prop
 | mk (k:Nat) (loc':Loc) (H':Hp) (a:Addr) (e1:e=.ref a) (x:ExcOk B s.heap.objs.size a k s'.heap) (c:Conc B env vs loc' H' s') (kp:KeepS env H s H' s') (q:X k loc' H')
section
variable {prog:Program} {w:World} {B:Bs} {T:Tab} {n:Nat} {env:Env} {vs:List Str} {loc:Loc} {A:Around} {E:Value->Shared->Prop} {s:Shared} {H:Hp}
theorem Conc.imm {loc':Loc} {H':Hp} {s':Shared} (c:Conc B env vs loc H s) (K:KeepS env H s H' s'):ImmK s.heap s'.heap:=ImmK.of_keep c.hp K.keep c.fr.own_not_imm
theorem AOk.keepS {loc':Loc} {H':Hp} {s':Shared} (a:AOk B A n H s.heap) (c:Conc B env vs loc H s) (K:KeepS env H s H' s'):AOk B A n H' s'.heap:=
 a.pres (ImmK.of_keep c.hp K.keep c.fr.own_not_imm) K.dict
theorem SPost.from {Q:Fl->Loc->Hp->Prop} {H1:Hp} {s1 s':Shared} {f:Flow} (K:KeepS env H s H1 s1) (x:SPost B env vs H1 s1 Q f s'):SPost B env vs H s Q f s':=by
 obtain ⟨fl,l,H',h1,h2,h3,h4⟩:=x
 exact ⟨fl,l,H',h1,h2,K.trans h3,h4⟩
theorem SExc.from {X:Nat->Loc->Hp->Prop} {H1:Hp} {s1 s':Shared} {f:Value} (K:KeepS env H s H1 s1) (x:SExc B env vs H1 s1 X f s'):SExc B env vs H s X f s':=by
 obtain ⟨k,l,H',a,h1,h2,h3,h4,h5⟩:=x
 exact ⟨k,l,H',a,h1,h2.le K.keep.size,h3,K.trans h4,h5⟩
theorem SExc.of {X:Nat->Loc->Hp->Prop} {H1:Hp} {s1 s':Shared} {v:Value} (K:KeepS env H s H1 s1) (x:EExc B env vs loc H1 s1 (fun k H=>X k loc H) v s'):SExc B env vs H s X v s':=by
 obtain ⟨k,H',a,h1,h2,h3,h4,h5⟩:=x
 exact ⟨k,loc,H',a,h1,h2.le K.keep.size,h3,K.trans (.of_keep h4),h5⟩
theorem set_get {i j:Nat} {d d':D} {l:Loc} (h:(l.set i (some d))[j]?=some (some d')):(i=j/\d'=d)\/(i≠j/\l[j]?=some (some d')):=by
 rw [List.getElem?_set] at h
 split at h
 ·rename_i hij
  split at h
  ·cases h;exact Or.inl ⟨hij,rfl⟩
  ·cases h
 ·rename_i hij;exact Or.inr ⟨hij,h⟩
theorem store_sound {x:Str} {i:Nat} {d:D} {v:Value} {sc:List (Str×NameKind)} {Q:Unit->Shared->Prop} {M:Model} (hok:storeOk sc vs x i=true) (hsc:sc=env.scope.names) (c:Conc B env vs loc H s) (r:Rep B s.heap d v) (hb0:B.base.get? env.locals=none) (hbc:∀y a,env.cells.lookup y=some a->B.base.get? a=none)
  (hQ:∀s',Conc B env vs (loc.set i (some d)) H s'->KeepS env H s H s'->Q () s'):wpAny M A (storeName env x v) Q E s:=by
 subst hsc
 unfold storeOk at hok
 simp only [Bool.and_eq_true,beq_iff_eq] at hok
 obtain ⟨hk,hi⟩:=hok
 have hkeep:∀{a:Addr} {h':Heap} {tk:Nat},own env a->Heap.SameBut a s.heap h'->(∀o es m,s.heap.get? a=some o->o.data=.dict es m->∃o' es' m',h'.get? a=some o'/\o'.data=.dict es' m')->KeepS env H s H { s with heap:=h',toks:=tk }:=by
  intro a h' tk ha hs hd
  refine ⟨⟨fun b o e hn hw=>⟨⟨o,?_,.refl o⟩,hn⟩,Nat.le_of_eq hs.1.symm,rfl,rfl⟩,fun b o es m e hdd hn=>?_⟩
  ·exact hs.extBut b o (fun q=>by subst q;exact hw ha) e
  ·by_cases q:b=a
   ·subst q
    obtain ⟨o',es',m',e',d'⟩:=hd o es m e hdd
    exact ⟨o',es',m',e',d',hn⟩
   ·exact ⟨o,es,m,hs.extBut b o q e,hdd,hn⟩
 cases hkk:env.scope.names.lookup x with
 | none=>rw [hkk] at hk;cases hk
 | some kd=>
  have hkind:env.kindOf x=some kd:=hkk
  cases kd with
  | «local»=>
   obtain ⟨m,hn,hm⟩:=c.fr.ns
   refine wpAny_storeName_local hkind hn (fun h' hn' hs=>?_) (by rw [c.fr.kind];rfl)
   have hni:=c.fr.own_not_imm
   have hI:ImmK s.heap h':=ImmK.but hs.extBut fun o e=>hni _ o (Or.inl rfl) e
   have hE:=hs.extBut
   refine hQ _ ⟨⟨c.fr.kind,c.fr.glob,c.fr.blt,⟨_,hn',fun y j d' h1 h2 h3=>?_⟩,fun y hy=>?_,fun y a ha=>?_,c.fr.noown,c.fr.cinj⟩,c.hp.but hE c.fr.noown (fun o e=>hni _ o (Or.inl rfl) e),StaysIn.but c.base hE hb0⟩ (hkeep (Or.inl rfl) hs fun o es m e hd=>?_)
   ·rcases set_get h2 with ⟨rfl,rfl⟩ | ⟨hij,h2⟩
    ·have:y=x:=ix_inj h1 hi
     subst this
     exact ⟨v,by simp,r.pres hI⟩
    ·have hyx:y≠x:=fun q=>by subst q;rw [hi] at h1;cases h1;exact hij rfl
     obtain ⟨u,hu,ru⟩:=hm y j d' h1 h2 h3
     exact ⟨u,by simp [hyx,hu],ru.pres hI⟩
   ·obtain ⟨a,ov,e1,e2,e3,e4⟩:=c.fr.cells y hy
    have hne:a≠env.locals:=fun q=>by
     subst q
     obtain ⟨o',es,ep,g1,g2,_⟩:=hn
     obtain ⟨o'',g3,g4⟩:=e2
     rw [g1] at g3;cases g3;rw [g2] at g4;cases g4
    obtain ⟨o'',g3,g4⟩:=e2
    refine ⟨a,ov,e1,⟨o'',hE a o'' hne g3,g4⟩,e3,fun j d' h1 h2=>?_⟩
    rcases set_get h2 with ⟨rfl,rfl⟩ | ⟨hij,h2⟩
    ·have:y=x:=ix_inj h1 hi
     subst this
     rw [hkind] at hy;rcases hy with hy | hy <;> cases hy
    ·obtain ⟨u,hu,ru⟩:=e4 j d' h1 h2
     exact ⟨u,hu,ru.pres hI⟩
   ·obtain ⟨⟨ov,o'',g3,g4⟩,e3⟩:=c.fr.cellsIn y a ha
    have hne:a≠env.locals:=fun q=>by
     subst q
     obtain ⟨o',es,ep,g1,g2,_⟩:=hn
     rw [g1] at g3;cases g3;rw [g2] at g4;cases g4
    exact ⟨⟨ov,o'',hE a o'' hne g3,g4⟩,e3⟩
   ·obtain ⟨o',es',ep',g1,g2,_⟩:=hn'
    exact ⟨o',es',ep',g1,g2⟩
  | cell=>
   obtain ⟨a,ov,e1,e2,e3,e4⟩:=c.fr.cells x (Or.inl hkind)
   refine wpAny_storeName_cell c.fr.kind hkind e1 e2 fun h' hc' hs=>?_
   have hni:=c.fr.own_not_imm
   have hE:=hs.extBut
   have hnia:∀o,s.heap.get? a=some o->¬Imm o:=fun o e=>hni _ o (Or.inr ⟨x,e1⟩) e
   have hI:ImmK s.heap h':=ImmK.but hE hnia
   obtain ⟨m,hn,hm⟩:=c.fr.ns
   have hLa:env.locals≠a:=fun q=>by
    subst q
    obtain ⟨o',es,ep,g1,g2,_⟩:=hn
    obtain ⟨o'',g3,g4⟩:=e2
    rw [g1] at g3;cases g3;rw [g2] at g4;cases g4
   refine hQ _ ⟨⟨c.fr.kind,c.fr.glob,c.fr.blt,⟨m,hn.extBut hE hLa,fun y j d' h1 h2 h3=>?_⟩,fun y hy=>?_,fun y b hb=>?_,c.fr.noown,c.fr.cinj⟩,c.hp.but hE e3 hnia,StaysIn.but c.base hE (hbc x a e1)⟩ (hkeep (Or.inr ⟨x,e1⟩) hs fun o es m e hd=>?_)
   ·rcases set_get h2 with ⟨rfl,rfl⟩ | ⟨hij,h2⟩
    ·have:y=x:=ix_inj h1 hi
     subst this
     rw [hkind] at h3;cases h3
    ·obtain ⟨u,hu,ru⟩:=hm y j d' h1 h2 h3
     exact ⟨u,hu,ru.pres hI⟩
   ·obtain ⟨b,ov',f1,f2,f3,f4⟩:=c.fr.cells y hy
    by_cases hyx:y=x
    ·subst hyx
     rw [e1] at f1;cases f1
     refine ⟨a,some v,e1,hc',e3,fun j d' h1 h2=>?_⟩
     rw [hi] at h1;cases h1
     rcases set_get h2 with ⟨_,rfl⟩ | ⟨hij,_⟩
     ·exact ⟨v,rfl,r.pres hI⟩
     ·exact absurd rfl hij
    ·have hba:b≠a:=fun q=>by subst q;exact hyx (c.fr.cinj y x b f1 e1)
     obtain ⟨o'',g3,g4⟩:=f2
     refine ⟨b,ov',f1,⟨o'',hE b o'' hba g3,g4⟩,f3,fun j d' h1 h2=>?_⟩
     rcases set_get h2 with ⟨rfl,rfl⟩ | ⟨hij,h2⟩
     ·exact absurd (ix_inj h1 hi) hyx
     ·obtain ⟨u,hu,ru⟩:=f4 j d' h1 h2
      exact ⟨u,hu,ru.pres hI⟩
   ·by_cases hba:b=a
    ·subst hba;exact ⟨⟨_,hc'⟩,e3⟩
    ·obtain ⟨⟨ov',o'',g3,g4⟩,f3⟩:=c.fr.cellsIn y b hb
     exact ⟨⟨ov',o'',hE b o'' hba g3,g4⟩,f3⟩
   ·obtain ⟨o'',g3,g4⟩:=e2
    rw [e] at g3;cases g3;rw [hd] at g4;cases g4
  | free=>rw [hkk] at hk;cases hk
  | globalExplicit=>rw [hkk] at hk;cases hk
  | globalImplicit=>rw [hkk] at hk;cases hk
end
end Mine
set_option Elab.async false
namespace Mine
open PySem PyProof.Rows
structure FSt (B:Bs) (env:Env) (A:Around):Prop where
 frames:∃outer,A.frames=some (env::outer)
 frame:∃L,env.frame=some L
 loc0:B.base.get? env.locals=none
 cells0:∀y a,env.cells.lookup y=some a->B.base.get? a=none
noncomputable def SndS (prog:Program) (w:World) (B:Bs) (T:Tab) (n:Nat) (x:St):Prop:=
 ∀(st:Stmt) (env:Env) (vs:List Str) (loc:Loc) (H:Hp) (A:Around) (s:Shared),chkS T env.scope.names vs x st=true->FSt B env A->AOk B A n H s.heap->Conc B env vs loc H s ->
  ∀(Q:Fl->Loc->Hp->Prop) (X:Nat->Loc->Hp->Prop),vS B.ns (CallS prog w B n) x loc H Q X->wpAny (model prog w) A (exec st env) (SPost B env vs H s Q) (SExc B env vs H s X) s
noncomputable def SndSs (prog:Program) (w:World) (B:Bs) (T:Tab) (n:Nat) (x:List St):Prop:=
 ∀(st:List Stmt) (env:Env) (vs:List Str) (loc:Loc) (H:Hp) (A:Around) (s:Shared),chkSs T env.scope.names vs x st=true->FSt B env A->AOk B A n H s.heap->Conc B env vs loc H s ->
  ∀(Q:Fl->Loc->Hp->Prop) (X:Nat->Loc->Hp->Prop),vSs B.ns (CallS prog w B n) x loc H Q X->wpAny (model prog w) A (execs st env) (SPost B env vs H s Q) (SExc B env vs H s X) s
section
variable {prog:Program} {w:World} {B:Bs} {T:Tab} {n:Nat} {env:Env} {vs:List Str} {loc:Loc} {A:Around} {E:Value->Shared->Prop} {s:Shared} {H:Hp}
theorem FrOk.inter {h:Heap} (F:FrOk B env vs loc H h):interactive env=false:=by
 unfold interactive;rw [F.kind];rfl
theorem Conc.own_lt (c:Conc B env vs loc H s) {a:Addr} (h:own env a):@LT.lt Nat _ a s.heap.objs.size:=by
 rcases h with rfl | ⟨x,hx⟩
 ·obtain ⟨m,⟨o,es,ep,e,_⟩,_⟩:=c.fr.ns;exact Heap.lt_size e
 ·obtain ⟨⟨ov,o,e,_⟩,_⟩:=c.fr.cellsIn x a hx;exact Heap.lt_size e
theorem Conc.but {b:Addr} {h':Heap} {tk:Nat} (c:Conc B env vs loc H s) (hs:Heap.ExtBut b s.heap h') (hn:H b=none) (hi:∀o,s.heap.get? b=some o->¬Imm o) (hb:B.base.get? b=none) (ho:¬own env b) :
  Conc B env vs loc H { s with heap:=h',toks:=tk }:=
 ⟨c.fr.pres (ImmK.but hs hi) fun a o q e hn'=>⟨⟨o,hs a o (fun q'=>by subst q';exact ho q) e,.refl o⟩,hn'⟩,c.hp.but hs hn hi,StaysIn.but c.base hs hb⟩
theorem KeepS.but {H':Hp} {s':Shared} {b:Addr} {h':Heap} {tk:Nat} (K:KeepS env H s H' s') (hs:Heap.ExtBut b s'.heap h') (hb:@LE.le Nat _ s.heap.objs.size b) (hz:s'.heap.objs.size<=h'.objs.size) :
  KeepS env H s H' { s' with heap:=h',toks:=tk }:=
 ⟨⟨fun a o e hn hw=>by
  obtain ⟨⟨o',e',k⟩,hn'⟩:=K.keep.obj a o e hn hw
  exact ⟨⟨o',hs a o' (fun q=>by subst q;exact absurd (Heap.lt_size e) (Nat.not_lt.mpr hb)) e',k⟩,hn'⟩,Nat.le_trans K.keep.size hz,K.keep.gens,K.keep.os⟩,
  fun a o es m e hd hn=>by
  obtain ⟨o',es',m',e',hd',hn'⟩:=K.dict a o es m e hd hn
  exact ⟨o',es',m',hs a o' (fun q=>by subst q;exact absurd (Heap.lt_size e) (Nat.not_lt.mpr hb)) e',hd',hn'⟩⟩
theorem post_next {Q:Fl->Loc->Hp->Prop} {loc':Loc} {H':Hp} {s':Shared} (c:Conc B env vs loc' H' s') (K:KeepS env H s H' s') (q:Q .next loc' H'):SPost B env vs H s Q .next s':=
 ⟨.next,loc',H',rfl,c,K,q⟩
theorem swaps_dich {x:Ex} {v:Expr} {sc:List (Str×NameKind)} {y:Str} {p:Pos} {line:Nat} (h:chkE T sc vs x v=true) :
  swapsWith v (some (.Name y p)) line env=pure false\/∃elt gens scope pos,v=.ListComp elt gens scope pos/\swapsWith v (some (.Name y p)) line env=pure true:=by
 replace h:=chk_tree h
 cases v <;> first | exact Or.inl rfl | exact absurd h Bool.false_ne_true | skip
 ·rename_i elt gens scope pos
  by_cases hb:(env.blockKind==.function&&env.kindOf y==some .local&&p.line==pos.line&&!(scope.names.any fun (n,k)=>n==y&&(k==.local||k==.cell)))=true
  ·right
   refine ⟨_,_,_,_,rfl,?_⟩
   show (pure (env.blockKind==.function&&env.kindOf y==some .local&&p.line==pos.line&&!(scope.names.any fun (n,k)=>n==y&&(k==.local||k==.cell))):Sem Bool)=_
   rw [hb]
  ·left
   show (pure (env.blockKind==.function&&env.kindOf y==some .local&&p.line==pos.line&&!(scope.names.any fun (n,k)=>n==y&&(k==.local||k==.cell))):Sem Bool)=_
   rw [Bool.eq_false_iff.mpr hb]
theorem comp_used {H1 H2:Hp} {s1 s':Shared} {D' C:Addr} {i:Nat} {y:Str} {py:Pos} {Q:Fl->Loc->Hp->Prop} {E':Value->Shared->Prop} (fs:FSt B env A) (hok:storeOk env.scope.names vs y i=true) (c1:Conc B env vs loc H1 s1) (k1:Keep noOwn H s H1 s1) (gC:s1.heap.objs.size<=C)
  (K:Keep noOwn H1 s1 H2 s') (CH:ConcH B H2 s'.heap) (SB:B.base.StaysIn s'.heap) (hn:∃m,s'.heap.Ns C m) (hC:H2 C=none) (hq:Q .next (loc.set i (some (.ref D'))) H2) :
  wpAny (model prog w) A (assign (.Name y py) env (.ref D')) (fun _ s''=>∃m,s''.heap.Ns C m/\∀h',Heap.SameBut C s''.heap h'->SPost B env vs H s Q .next { s'' with heap:=h' }) E' s':=by
 have c':Conc B env vs loc H2 s':=c1.keep K CH SB
 have hno:¬own env C:=fun q=>absurd (c1.own_lt q) (Nat.not_lt.mpr gC)
 refine wpAny_assign_Name (store_sound hok rfl c' (d:=.ref D') (by simp only [Rep]) fs.loc0 fs.cells0 fun s'' c'' k''=>?_)
 obtain ⟨m,hm⟩:=hn
 have hm':s''.heap.Ns C m:=Ns.keepO hm fun o e=>(k''.keep.obj C o e hC hno).1
 refine ⟨m,hm',fun h' hs=>?_⟩
 have hz:s.heap.objs.size<=s1.heap.objs.size:=k1.size
 refine post_next (c''.but (tk:=s''.toks) hs.extBut hC (cell_not_imm hm') (base_none_of_ge c1.base gC) hno) ?_ hq
 exact KeepS.but (tk:=s''.toks) (((KeepS.of_keep k1).trans (KeepS.of_keep K)).trans k'') hs.extBut (Nat.le_trans hz gC) (Nat.le_of_eq hs.1.symm)
noncomputable def isComp:Ex->Bool
 | .comp .. | .compIf ..=>true
 | _=>false
theorem chk_comp {x:Ex} {elt:Expr} {gs:List Comprehension} {scope:Scope} {p:Pos} {sc:List (Str×NameKind)} (h:chkE T sc vs x (.ListComp elt gs scope p)=true):isComp x=true:=by
 cases x <;> first | exact absurd h Bool.false_ne_true | rfl
theorem comp_of {x it:Ex} {elt:Expr} {gs:List Comprehension} {scope:Scope} {p:Pos} {sc:List (Str×NameKind)} (h:chkE T sc vs (.comp x it) (.ListComp elt gs scope p)=true) :
  ∃y py iter,gs=[⟨.Name y py,iter,[],0⟩]/\chkE T sc vs it iter=true/\chkE T scope.names (y::vs) x elt=true/\compScopeOk sc scope y vs=true:=
 inv_comp (P:=fun e=>∀elt gs scope p,e=.ListComp elt gs scope p->∃y py iter,gs=[⟨.Name y py,iter,[],0⟩]/\chkE T sc vs it iter=true/\chkE T scope.names (y::vs) x elt=true/\compScopeOk sc scope y vs=true)
  h (fun elt y py iter scope p a b c elt' gs' scope' p' e=>by cases e;exact ⟨y,py,iter,rfl,a,b,c⟩) elt gs scope p rfl
theorem compIf_of {x it c:Ex} {elt:Expr} {gs:List Comprehension} {scope:Scope} {p:Pos} {sc:List (Str×NameKind)} (h:chkE T sc vs (.compIf x it c) (.ListComp elt gs scope p)=true) :
  ∃y py iter cond,gs=[⟨.Name y py,iter,[cond],0⟩]/\chkE T sc vs it iter=true/\chkE T scope.names (y::vs) x elt=true/\chkE T scope.names (y::vs) c cond=true/\compScopeOk sc scope y vs=true:=
 inv_compIf (P:=fun e=>∀elt gs scope p,e=.ListComp elt gs scope p->∃y py iter cond,gs=[⟨.Name y py,iter,[cond],0⟩]/\chkE T sc vs it iter=true/\chkE T scope.names (y::vs) x elt=true/\chkE T scope.names (y::vs) c cond=true/\compScopeOk sc scope y vs=true)
  h (fun elt y py iter cond scope p a b c d elt' gs' scope' p' e=>by cases e;exact ⟨y,py,iter,cond,rfl,a,b,c,d⟩) elt gs scope p rfl
theorem snd_assign {i:Nat} {x:Ex} (hsn:∀x,Snd prog w B T n x):SndS prog w B T n (.assign i x):=by
 intro st env vs loc H A s hc fs aok c Q X h
 refine invS_assign hc fun y py value pos h1 h2=>?_
 ·
  rcases swaps_dich (env:=env) (y:=y) (p:=py) (line:=pos.line) h2 with hs | ⟨elt,gens,scope,cp,rfl,hs⟩
  ·
   refine wpAny_Assign_Name (wpAny_mono (((hsn x) value _ env vs loc H A s h2 (.self env) aok c).1 _ _ h) (fun v s1 hp=>?_) fun _ _ q=>SExc.of .refl q) hs
   obtain ⟨d,H1,r1,c1,k1,q1⟩:=hp
   exact store_sound h1 rfl c1 r1 fs.loc0 fs.cells0 fun s' c' k'=>post_next c' ((KeepS.of_keep k1).trans k') q1
  ·rw [exec_Assign_Name_used _ _ _ _ hs]
   refine wpAny_bind (wpAny_standAt (wpAny_bind ?_))
   have hx:=chk_comp h2
   cases x <;> try exact absurd hx Bool.false_ne_true
   ·rename_i e it
    obtain ⟨y',py',iter,rfl,g1,g2,g3⟩:=comp_of h2
    ·
     have cs:=csOk_of g3
     show wpAny _ A (do let _ <-comprehension (.ListComp elt [⟨.Name y' py',iter,[],0⟩] scope cp) scope env _ (newList []) false (eval iter env) (some (assign (.Name y py) env))) _ _ s
     refine wpAny_bind (wpAny_mono (wpAny_comprehension_free (use:=some (assign (.Name y py) env)) (Q:=fun _ s'=>SPost B env vs H s Q .next s') rfl (folded_ok g1 env) (closureFor_is (fr_closure c.fr (.self env) cs)) cs.kind (comp_names cs)
      (wpAny_mono ((hsn it _ _ env vs loc H A s g1 (.self env) aok c).1 _ _ h) (fun x1 s1 hp=>?_) fun _ _ q=>SExc.of .refl q)) (fun _ s' hq=>wpAny_pure (wpAny_pure hq)) fun _ _ q=>q)
     obtain ⟨src,H1,r1,c1,k1,all,hall,hf⟩:=hp
     refine comp_any c1 (aok.keep c.hp k1) (.self env) cs hall r1 (comp_body1 (hsn e) g2) hf fun D' C acc H' s' _ gD gC hqf hD K CH SB hn hC=>?_
     exact comp_used fs h1 c1 k1 gC K CH SB hn hC (hqf D' hD)
   ·rename_i e it t
    obtain ⟨y',py',iter,cond,rfl,g1,g2,g4,g3⟩:=compIf_of h2
    ·
     have cs:=csOk_of g3
     show wpAny _ A (do let _ <-comprehension (.ListComp elt [⟨.Name y' py',iter,[cond],0⟩] scope cp) scope env _ (newList []) false (eval iter env) (some (assign (.Name y py) env))) _ _ s
     refine wpAny_bind (wpAny_mono (wpAny_comprehension_free (use:=some (assign (.Name y py) env)) (Q:=fun _ s'=>SPost B env vs H s Q .next s') rfl (folded_ok g1 env) (closureFor_is (fr_closure c.fr (.self env) cs)) cs.kind (comp_names cs)
      (wpAny_mono ((hsn it _ _ env vs loc H A s g1 (.self env) aok c).1 _ _ h) (fun x1 s1 hp=>?_) fun _ _ q=>SExc.of .refl q)) (fun _ s' hq=>wpAny_pure (wpAny_pure hq)) fun _ _ q=>q)
     obtain ⟨src,H1,r1,c1,k1,all,hall,hf⟩:=hp
     refine comp_any c1 (aok.keep c.hp k1) (.self env) cs hall r1 (comp_body2 (hsn e) (hsn t) g2 g4) hf fun D' C acc H' s' _ gD gC hqf hD K CH SB hn hC=>?_
     exact comp_used fs h1 c1 k1 gC K CH SB hn hC (hqf D' hD)
theorem snd_expr {x:Ex} (hsn:∀x,Snd prog w B T n x):SndS prog w B T n (.expr x):=by
 intro st env vs loc H A s hc fs aok c Q X h
 refine invS_expr hc fun v pos h1 h2=>?_
 refine wpAny_Expr_any (wpAny_mono (((hsn x) v _ env vs loc H A s h1 (.self env) aok c).1 _ _ h) (fun v s1 hp=>?_) fun _ _ q=>SExc.of .refl q) c.fr.inter (by cases v <;> first | rfl | cases h2)
 obtain ⟨d,H1,r1,c1,k1,q1⟩:=hp
 exact post_next c1 (.of_keep k1) q1
theorem snd_ret {x:Ex} (hsn:∀x,Snd prog w B T n x):SndS prog w B T n (.ret x):=by
 intro st env vs loc H A s hc fs aok c Q X h
 refine invS_ret hc (fun v pos hc=>?_) fun pos he=>?_
 ·refine wpAny_Return_some (wpAny_mono (((hsn x) v _ env vs loc H A s hc (.self env) aok c).1 _ _ h) (fun v s1 hp=>?_) fun _ _ q=>SExc.of .refl q)
  obtain ⟨d,H1,r1,c1,k1,q1⟩:=hp
  exact ⟨.ret d,loc,H1,⟨v,rfl,r1⟩,c1,.of_keep k1,q1⟩
 ·subst he
  exact wpAny_Return_none ⟨.ret .none,loc,H,⟨.none,rfl,rep_none⟩,c,.refl,h⟩
theorem snd_ite {x:Ex} {a b:List St} (hsn:∀x,Snd prog w B T n x) (ha:SndSs prog w B T n a) (hb:SndSs prog w B T n b):SndS prog w B T n (.ite x a b):=by
 intro st env vs loc H A s hc fs aok c Q X h
 refine invS_ite hc fun t xs ys pos h1 h2 h3=>?_
 refine wpAny_If (wpAny_mono (((hsn x) t _ env vs loc H A s h1 (.self env) aok c).2 (fun r H'=>if r then vSs B.ns (CallS prog w B n) a loc H' Q X else vSs B.ns (CallS prog w B n) b loc H' Q X) _ h) (fun r s1 hp=>?_) fun _ _ q=>SExc.of .refl q)
 obtain ⟨H1,c1,k1,q1⟩:=hp
 have K:KeepS env H s H1 s1:=.of_keep k1
 cases r with
 | true=>
  simp only [if_true] at q1 ⊢
  exact wpAny_mono (ha xs env vs loc H1 A s1 h2 fs (aok.keep c.hp k1) c1 Q X q1) (fun _ _ q=>q.from K) fun _ _ q=>q.from K
 | false=>
  simp only [Bool.false_eq_true,if_false] at q1 ⊢
  exact wpAny_mono (hb ys env vs loc H1 A s1 h3 fs (aok.keep c.hp k1) c1 Q X q1) (fun _ _ q=>q.from K) fun _ _ q=>q.from K
theorem snd_brk:SndS prog w B T n .brk:=by
 intro st env vs loc H A s hc fs aok c Q X h
 refine invS_brk hc fun p=>?_
 exact wpAny_Break ⟨.brk,loc,H,rfl,c,.refl,h⟩
theorem snd_cont:SndS prog w B T n .cont:=by
 intro st env vs loc H A s hc fs aok c Q X h
 refine invS_cont hc fun p=>?_
 exact wpAny_Continue ⟨.cont,loc,H,rfl,c,.refl,h⟩
theorem snd_nil:SndSs prog w B T n []:=by
 intro st env vs loc H A s hc fs aok c Q X h
 exact invSs_nil hc (wpAny_execs_nil (post_next c .refl h))
theorem snd_cons {x:St} {r:List St} (hx:SndS prog w B T n x) (hr:SndSs prog w B T n r):SndSs prog w B T n (x::r):=by
 intro st env vs loc H A s hc fs aok c Q X h
 refine invSs_cons hc fun st rest hc1 hc2=>?_
 ·
  refine wpAny_execs_cons (wpAny_mono (hx st env vs loc H A s hc1 fs aok c _ X h) (fun f s1 hp=>?_) fun _ _ q=>q)
  obtain ⟨fl,l1,H1,hf,c1,k1,q1⟩:=hp
  cases fl with
  | next=>
   have:f=.next:=hf
   subst this
   exact wpAny_mono (hr rest env vs l1 H1 A s1 hc2 fs (aok.keepS (loc':=loc) c k1) c1 Q X q1) (fun _ _ q=>q.from k1) fun _ _ q=>q.from k1
  | brk=>
   have:f=.brk:=hf
   subst this
   exact ⟨.brk,l1,H1,rfl,c1,k1,q1⟩
  | cont=>
   have:f=.cont:=hf
   subst this
   exact ⟨.cont,l1,H1,rfl,c1,k1,q1⟩
  | ret d=>
   obtain ⟨v,rfl,r⟩:=hf
   exact ⟨.ret d,l1,H1,⟨v,rfl,r⟩,c1,k1,q1⟩
end
end Mine
set_option Elab.async false
namespace Mine
open PySem PyProof.Rows
section
variable {prog:Program} {w:World} {B:Bs} {T:Tab} {n:Nat} {env:Env} {vs:List Str} {loc:Loc} {A:Around} {E:Value->Shared->Prop} {s:Shared} {H:Hp}
noncomputable def SExcT (B:Bs) (env:Env) (vs:List Str) (H:Hp) (s:Shared) (X:Nat->Loc->Hp->Prop):Value->Shared->Prop:=
 fun e s'=>∃k loc' H' a,e=.ref a/\ExcTb B s.heap.objs.size a k s'.heap/\Conc B env vs loc' H' s'/\KeepS env H s H' s'/\X k loc' H'
theorem SExcT.exc {X:Nat->Loc->Hp->Prop} {e:Value} {s':Shared} (x:SExcT B env vs H s X e s'):SExc B env vs H s X e s':=by
 obtain ⟨k,l,H',a,h1,h2,h3,h4,h5⟩:=x
 exact ⟨k,l,H',a,h1,h2.1,h3,h4,h5⟩
theorem AOk.framesOf {h:Heap} (a:AOk B A n H h) (fs:FSt B env A):∃outer,A.frames=some (env::outer)/\FramesOk B (env::outer) H h:=by
 obtain ⟨outer,e⟩:=fs.frames
 obtain ⟨l,e',f⟩:=a.frames
 rw [e] at e';cases e'
 exact ⟨outer,e,f⟩
theorem KeepX.keepS {a:Addr} {H':Hp} {s' s'':Shared} (x:KeepX B s.heap.objs.size a s' s'') (K:KeepS env H s H' s'):KeepS env H s H' s'':=
 ⟨x.keep K.keep,K.dict.trans x.dict⟩
theorem exc_noted {X:Nat->Loc->Hp->Prop} {E':Value->Shared->Prop} {e:Value} {s':Shared} (fs:FSt B env A) (a0:AOk B A n H s.heap) (c0:Conc B env vs loc H s) (x:SExc B env vs H s X e s') (h:∀s'',SExcT B env vs H s X e s''->E' e s''):notedBy (model prog w) A env E' e s':=by
 obtain ⟨k,l',H',a,rfl,x1,c1,k1,hx⟩:=x
 obtain ⟨outer,e1,f1⟩:=(a0.keepS (loc':=loc) c0 k1).framesOf fs
 obtain ⟨L,hL⟩:=fs.frame
 exact note_sound e1 f1 hL x1 (fun b hb=>base_none_of_ge c0.base hb) fun s'' K t=>h s'' ⟨k,l',H',a,rfl,t,K.conc c1,K.keepS k1,hx⟩
theorem exc_back {X:Nat->Loc->Hp->Prop} {e:Value} {s':Shared} {E':Value->Shared->Prop} (c0:Conc B env vs loc H s) (x:SExcT B env vs H s X e s') (h:∀s'',SExcT B env vs H s X e s''->E' e s''):cameBackBy (model prog w) A env E' e s':=by
 obtain ⟨k,l',H',a,rfl,x1,c1,k1,hx⟩:=x
 have x1':=x1
 obtain ⟨x1,o,us,Tb,h1,h2,h3⟩:=x1
 refine wpAny_bind (wpAny_field h1 h2 h3 ?_)
 rw [if_neg (by simp)]
 refine flight_sound x1 (fun b hb=>base_none_of_ge c0.base hb) fun s'' K x' t=>h s'' ⟨k,l',H',a,rfl,t x1',K.conc c1,K.keepS k1,hx⟩
theorem snd_while {x:Ex} {body:List St} (hsn:∀x,Snd prog w B T n x) (hb:SndSs prog w B T n body):SndS prog w B T n (.whileS x body):=by
 intro st env vs loc H A s hc fs aok c Q X h
 refine invS_while hc fun t b pos hc1 hc2=>?_
 ·
  obtain ⟨I,⟨n0,h0⟩,hI⟩:=h
  refine wpAny_While (codeAny_whileLoop (fun m s'=>∃l' H',I m l' H'/\Conc B env vs l' H' s'/\KeepS env H s H' s') (fun m s1 hm=>?_) n0 ⟨loc,H,h0,c,.refl⟩)
  obtain ⟨l1,H1,i1,c1,k1⟩:=hm
  have a1:=aok.keepS (loc':=loc) c k1
  have back:∀e s',SExc B env vs H s X e s'->notedBy (model prog w) A env (fun e s'=>cameBackBy (model prog w) A env (SExc B env vs H s X) e s') e s':=fun e s' q=>
   exc_noted fs aok c q fun s'' q'=>exc_back c q' fun s3 q3=>q3.exc
  refine wpAny_mono ((hsn x t _ env vs l1 H1 A s1 hc1 (.self env) a1 c1).2 (fun r H'=>if r then vSs B.ns (CallS prog w B n) body l1 H' (wQ I m Q) X
   else Q .next l1 H') _ (hI m l1 H1 i1)) (fun r s2 hp=>?_) fun _ _ q=>back _ _ (SExc.of k1 q)
  obtain ⟨H2,c2,k2,q2⟩:=hp
  have K2:=k1.trans (KeepS.of_keep k2)
  cases r with
  | false=>
   simp only [Bool.false_eq_true,if_false] at q2 ⊢
   exact wpAny_execs_nil (post_next c2 K2 q2)
  | true=>
   simp only [if_true] at q2 ⊢
   refine wpAny_mono (hb b env vs l1 H2 A s2 hc2 fs (a1.keep c1.hp k2) c2 _ X q2) (fun f s3 hp=>?_) fun _ _ q=>back _ _ (q.from K2)
   obtain ⟨fl,l3,H3,hf,c3,k3,q3⟩:=hp
   cases fl with
   | next=>
    have:f=.next:=hf
    subst this
    obtain ⟨m',hm,hi⟩:=q3
    exact ⟨m',hm,l3,H3,hi,c3,K2.trans k3⟩
   | cont=>
    have:f=.cont:=hf
    subst this
    obtain ⟨m',hm,hi⟩:=q3
    exact ⟨m',hm,l3,H3,hi,c3,K2.trans k3⟩
   | brk=>
    have:f=.brk:=hf
    subst this
    exact post_next c3 (K2.trans k3) q3
   | ret d=>
    obtain ⟨v,rfl,r⟩:=hf
    exact ⟨.ret d,l3,H3,⟨v,rfl,r⟩,c3,K2.trans k3,q3⟩
structure FInv (B:Bs) (env:Env) (vs:List Str) (H1:Hp) (s1:Shared) (it:Addr) (sr:Src) (src:D) (all:List D) (i:Nat) (l':Loc) (H':Hp) (s':Shared):Prop where
 c:Conc B env vs l' H' s'
 k:KeepS env H1 s1 H' s'
 iter:IterAt s'.heap it sr i
 src:SrcOk B s'.heap sr src
 hit:H' it=none
 le:i<=all.length
theorem snd_for {i:Nat} {x:Ex} {body:List St} (hsn:∀x,Snd prog w B T n x) (hb:SndSs prog w B T n body):SndS prog w B T n (.forS i x body):=by
 intro st env vs loc H A s hc fs aok c Q X h
 refine invS_for hc fun y py iter b pos h1 h2 h3=>?_
 ·
  refine wpAny_For (wpAny_mono ((hsn x iter _ env vs loc H A s h2 (.self env) aok c).1 _ _ h) (fun x1 s1 hp=>?_) fun _ _ q=>SExc.of .refl q) (folded_ok h2 env)
  obtain ⟨src,H1,r1,c1,k1,all,hall,hf⟩:=hp
  have K1:KeepS env H s H1 s1:=.of_keep k1
  have a1:=aok.keep c.hp k1
  refine iter_make hall r1 c1.hp fun o sr hsr hit=>?_
  have old:∀b o',s1.heap.get? b=some o'->(s1.heap.push o).get? b=some o':=fun b o' e=>push_keep _ b o' e
  have hsz0:(s1.heap.push o).objs.size=s1.heap.objs.size+1:=Heap.size_push ..
  have hbi:B.base.get? s1.heap.objs.size=none:=base_none_of_ge c1.base (Nat.le_refl _)
  have hno:¬own env s1.heap.objs.size:=fun q=>absurd (c1.own_lt q) (Nat.lt_irrefl _)
  have I0:FInv B env vs H1 s1 s1.heap.objs.size sr src all 0 loc H1 { s1 with heap:=s1.heap.push o }:=by
   refine ⟨⟨c1.fr.pres (.grow old) fun a o' _ e hn=>⟨⟨o',old a o' e,.refl o'⟩,hn⟩,c1.hp.grow old,fun a o e=>old a o (c1.base a o e)⟩,⟨.grow old (by show s1.heap.objs.size<=(s1.heap.push o).objs.size;exact jk3 hsz0) rfl rfl,.grow old⟩,hit,hsr.pres (.grow old),?_,Nat.zero_le _⟩
   cases q:H1 s1.heap.objs.size with
   | none=>rfl
   | some ob=>exact absurd (c1.hp.lt q) (Nat.lt_irrefl _)
  have back:∀e s',SExc B env vs H1 s1 X e s'->notedBy (model prog w) A env (fun e s'=>cameBackBy (model prog w) A env (SExc B env vs H s X) e s') e s':=fun e s' q=>
   exc_noted fs a1 c1 q fun s'' q'=>exc_back c1 q' fun s3 q3=>q3.exc.from K1
  refine codeAny_forLoop (fun m s'=>∃i' l' H',m+i'=all.length/\FInv B env vs H1 s1 s1.heap.objs.size sr src all i' l' H' s' /\
   forL src all (bodyQ i (vSs B.ns (CallS prog w B n) body) X) Q (all.drop i') l' H') (fun m s2 hm=>?_) all.length ⟨0,loc,H1,by exact Nat.le_antisymm (jl0 (jc1 _) (jA j0 (jK 0)) j0 rfl) (jl0 (jc1 _) j0 (jA j0 (jK 0)) rfl),I0,by simpa using hf⟩
  obtain ⟨i',l2,H2,hmi,I,hf2⟩:=hm
  have a2:AOk B A n H2 s2.heap:=a1.keepS (loc':=loc) c1 I.k
  rcases Nat.lt_or_ge i' all.length with hlt | hge
  ·have hdrop:all.drop i'=all[i']::all.drop (i'+1):=List.drop_eq_getElem_cons hlt
   rw [hdrop] at hf2
   obtain ⟨hiter,hbody⟩:=hf2
   refine next_item hiter I.src I.iter I.c.hp (List.getElem?_eq_getElem hlt) fun v h' tk rv hit' hsb=>?_
   have hni:=I.iter.not_imm
   have c3:Conc B env vs l2 H2 { s2 with heap:=h',toks:=tk }:=I.c.but hsb.extBut I.hit hni hbi hno
   have k3:KeepS env H1 s1 H2 { s2 with heap:=h',toks:=tk }:=I.k.but hsb.extBut (Nat.le_refl _) (Nat.le_of_eq hsb.1.symm)
   have a3:AOk B A n H2 h':=a1.keepS (loc':=loc) c1 k3
   refine wpAny_assign_Name (store_sound h1 rfl c3 rv fs.loc0 fs.cells0 fun s4 c4 k4=>?_)
   have k4':=k3.trans k4
   have a4:AOk B A n H2 s4.heap:=a1.keepS (loc':=loc) c1 k4'
   have keepIt:∀{H5:Hp} {s5:Shared} {j:Nat},KeepS env H2 { s2 with heap:=h',toks:=tk } H5 s5->j=i'+1->IterAt s5.heap s1.heap.objs.size sr j/\H5 s1.heap.objs.size=none:=fun {H5 s5 j} k5 hj=>by
    subst hj
    obtain ⟨oi,Ti,hoi,_,_,_,us,hus⟩:=hit'.obj
    obtain ⟨⟨oi',e',kk⟩,hn⟩:=k5.keep.obj _ oi hoi I.hit hno
    rw [kk.eq (fun es m q=>by rw [hus] at q;cases q)] at e'
    exact ⟨hit'.keep fun o'' e=>by rw [show h'.get? s1.heap.objs.size=some oi from hoi] at e;cases e;exact e',hn⟩
   refine wpAny_mono (hb b env vs _ H2 A s4 h3 fs a4 c4 _ X hbody) (fun f s5 hp=>?_) fun _ _ q=>back _ _ (q.from k4')
   obtain ⟨fl,l5,H5,hf5,c5,k5,q5⟩:=hp
   have k45:=k4.trans k5
   have fin:FInv B env vs H1 s1 s1.heap.objs.size sr src all (i'+1) l5 H5 s5:=
    ⟨c5,k3.trans k45,(keepIt k45 rfl).1,I.src.pres ((ImmK.but hsb.extBut hni).trans (c3.imm (loc':=loc) k45)),(keepIt k45 rfl).2,hlt⟩
   have KK:KeepS env H s H5 s5:=K1.trans (k3.trans k45)
   cases fl with
   | next=>
    have:f=.next:=hf5
    subst this
    exact ⟨m - 1,by exact jk62 hmi hlt,i'+1,l5,H5,by exact jk63 hmi hlt,fin,q5⟩
   | cont=>
    have:f=.cont:=hf5
    subst this
    exact ⟨m - 1,by exact jk62 hmi hlt,i'+1,l5,H5,by exact jk63 hmi hlt,fin,q5⟩
   | brk=>
    have:f=.brk:=hf5
    subst this
    exact post_next c5 KK q5
   | ret d=>
    obtain ⟨v,rfl,r⟩:=hf5
    exact ⟨.ret d,l5,H5,⟨v,rfl,r⟩,c5,KK,q5⟩
  ·have hi':i'=all.length:=Nat.le_antisymm I.le hge
   rw [hi',List.drop_length] at hf2
   obtain ⟨hiter,hq⟩:=hf2
   refine next_end a2.hand hiter I.src I.iter I.c.hp hi' fun h' hE hz=>?_
   have hni:=I.iter.not_imm
   refine wpAny_execs_nil (post_next (I.c.but (tk:=s2.toks) hE I.hit hni hbi hno) (K1.trans (I.k.but (tk:=s2.toks) hE (Nat.le_refl _) hz)) hq)
end
end Mine
set_option Elab.async false
namespace Mine
open PySem PyProof.Rows
section
variable {prog:Program} {w:World} {B:Bs} {T:Tab} {n:Nat} {env:Env} {vs:List Str} {loc:Loc} {A:Around} {E:Value->Shared->Prop} {s:Shared} {H:Hp}
theorem set_list {l:Addr} {items:Array Value} {k:Int} {t:Tok} {v:Value} {Q:Unit->Shared->Prop} (hl:s.heap.IsList l items)
  (h0:0<=k) (hfit:k < 2 ^ 63) (hn:k < items.size)
  (hQ:Q () { s with heap:=s.heap.update l (Obj.mapSeq (·.setIfInBounds k.toNat v)) }) :
  wpAny (model prog w) A (setItem (.ref l) (.int k t) v) Q E s:=by
 obtain ⟨o,ho,hc,ne,hd⟩:=id hl
 unfold setItem
 try with_reducible refine wpAny_holding ?_
 first | refine wpAny_bind (wpAny_pure ?_) | skip
 refine wpAny_bind (wpAny_sequenceKey hl.typeIs (by decide) ?_)
 refine wpAny_bind (wpAny_callSpecial?_slot (name:=Str.ofString "__setitem__") hl.typeIs slot_list_setitem
  (wpAny_call_entry slot_list_setitem hl.typeIs entry_list_setitem ?_ (args_list_setitem _ _ _)))
 show wpAny _ _ (Builtin.List.listSubscript? (.int k t) >>= _) _ _ s
 refine wpAny_bind (wpAny_listSubscript_int (fitsIndex_of h0 hfit) ?_)
 clear hfit
 obtain ⟨j,rfl⟩:=Int.eq_ofNat_of_zero_le h0
 have hj:j < items.size:=by exact jk64 hn
 have hx':items[j]?=some items[j]:=Array.getElem?_eq_getElem hj
 show wpAny _ _ ((seqItemAt l j >>= fun r=>pure (r.map (j,·))) >>= _) _ _ s
 refine wpAny_bind (wpAny_bind (wpAny_seqItemAt ho hd (wpAny_pure ?_)))
 rw [hx']
 show wpAny _ _ (setSeqItemAt l j v >>= _) _ _ s
 refine wpAny_bind (wpAny_setSeqItemAt ho hd ?_)
 first
  | exact wpAny_bind (wpAny_pure (wpAny_pure ⟨.none,rfl,wpAny_pure hQ⟩))
  | exact wpAny_pure ⟨.none,rfl,wpAny_pure hQ⟩
theorem snd_setItem {a i e:Ex} (hsn:∀x,Snd prog w B T n x):SndS prog w B T n (.setItem a i e):=by
 intro st env vs loc H A s hc fs aok c Q X h
 refine invS_setItem hc fun o k py value pos h1 h2 h3 h4=>?_
 ·
  refine wpAny_Assign_Subscript (wpAny_mono ((hsn e value _ env vs loc H A s h1 (.self env) aok c).1 _ _ h) (fun v s1 hp=>?_) fun _ _ q=>SExc.of .refl q) (by cases value <;> rfl)
  obtain ⟨d,H1,r1,c1,k1,q1⟩:=hp
  have a1:=aok.keep c.hp k1
  refine wpAny_mono ((hsn a o _ env vs loc H1 A s1 h2 (.self env) a1 c1).1 _ _ q1) (fun ov s2 hp=>?_) fun _ _ q=>SExc.of (.of_keep k1) q
  obtain ⟨dx,H2,r2,c2,k2,q2⟩:=hp
  have a2:=a1.keep c1.hp k2
  refine wpAny_mono ((hsn i k _ env vs loc H2 A s2 h3 (.self env) a2 c2).1 _ _ q2) (fun iv s3 hp=>?_) fun _ _ q=>SExc.of ((KeepS.of_keep k1).trans (.of_keep k2)) q
  obtain ⟨dy,H3,r3,c3,k3,r,kk,m,rfl,rfl,hm,hk0,hk1,hq⟩:=hp
  have I1:ImmK s1.heap s2.heap:=ImmK.of_keep c1.hp k2 fun _ _ q=>q.elim
  have I2:ImmK s2.heap s3.heap:=ImmK.of_keep c2.hp k3 fun _ _ q=>q.elim
  simp only [Rep] at r2 r3
  subst r2
  obtain ⟨t,rfl⟩:=r3
  obtain ⟨us,ne,g,hz,hl,hr⟩:=c3.hp.list hm
  have hsz:us.size<=SZ:=by exact jk23 hz
  have hSZ:SZ=1000000:=rfl
  refine set_list (IsL.isList g) hk0 (by exact ul3 (uc4 _ ((_:Nat):Int) ((_:Nat):Int) ((_:Nat):Int)) u1 u3 u3 u2 (uA (uA u0 (uK 1)) u2) (uA u1 (uK 1000000)) (uA u0 (uK 1)) (uK 9223372036854775808) rfl (Int.ofNat_le.mpr (Nat.le_of_eq (Eq.symm hl))) (Int.ofNat_le.mpr hz) (Int.add_le_add hk1 (Int.ofNat_le.mpr (Nat.le_of_eq hSZ)))) (by exact ul2 (uc3 _ ((_:Nat):Int) ((_:Nat):Int)) (uA u0 (uK 1)) u2 u2 u1 (uA u0 (uK 1)) u1 rfl hk1 (Int.ofNat_le.mpr (Nat.le_of_eq (Eq.symm hl)))) ?_
  have rd:Rep B s3.heap d v:=(r1.pres I1).pres I2
  have hrl:RepL B s3.heap (m.set kk.toNat d) (us.setIfInBounds kk.toNat v).toList:=by
   rw [Array.toList_setIfInBounds];exact hr.set _ rd
  have CH:=concH_upd (f:=(·.setIfInBounds kk.toNat v)) c3.hp hm g hrl (by rw [List.length_set];exact jk14 hl hz)
  have K:Keep noOwn H3 s3 (H3.set r (.list (m.set kk.toNat d))) { s3 with heap:=s3.heap.update r (Obj.mapSeq (·.setIfInBounds kk.toNat v)) }:=keep_upd hm rfl
  exact post_next (c3.keep K CH (stays_upd c3.hp hm c3.base)) ((((KeepS.of_keep k1).trans (.of_keep k2)).trans (.of_keep k3)).trans (.of_keep K)) hq
theorem snd_setTold (hB:BOk prog w B T) {a e:Ex} (hsn:∀x,Snd prog w B T n x):SndS prog w B T n (.setTold a e):=by
 intro st env vs loc H A s hc fs aok c Q X h
 refine invS_told hc fun o py value pos h1 h2=>?_
 refine plainObj_wpAny_Assign_Attribute (wpAny_mono ((hsn e value _ env vs loc H A s h1 (.self env) aok c).1 _ _ h) (fun v s1 hp=>?_) fun _ _ q=>SExc.of .refl q) (by cases value <;> rfl)
 obtain ⟨d,H1,r1,c1,k1,q1⟩:=hp
 have a1:=aok.keep c.hp k1
 refine wpAny_mono ((hsn a o _ env vs loc H1 A s1 h2 (.self env) a1 c1).1 _ _ q1) (fun ov s2 hp=>?_) fun _ _ q=>SExc.of (.of_keep k1) q
 obtain ⟨dx,H2,r2,c2,k2,q2⟩:=hp
 obtain ⟨t,rfl,q3⟩:=ref_of q2
 obtain ⟨r,rfl,dd,t0,e1,hq⟩:=ref_of q3
 clear q2 q3
 simp only [Rep] at r1 r2
 subst r1
 subst r2
 have ro:RoAt B H2 s2.heap r dd t0:=(c2.hp r _ e1).1
 obtain ⟨ob,C,g,cc,hr,dc,dt,ne,hx,hn⟩:=ro
 obtain ⟨C0,N,mN,e0,X0,gg,z1,z2,z3,z4,zi,mm⟩:=hB.rd (.inr ⟨C,hr⟩)
 rw [hr] at e0
 cases e0
 obtain ⟨nm,qq,bs,sn,sub,col,dd',l0,l1,l2,l3,l5,hC⟩:=(X0.keeps c2.base).obj
 have hns:=(X0.keeps c2.base).ns
 have bdd:=(c2.hp dd _ hx).2
 have fin:∀h' tk',h'.Ns1 dd (fun y=>if y=told then some (.ref t) else none)->Heap.SameBut dd s2.heap h'->SPost B env vs H s Q .next { s2 with heap:=h',toks:=tk' }:=fun h' tk' hn' hs=>by
  have hE:=hs.extBut
  obtain ⟨od,es,ep,god,dod,_⟩:=hn
  have hI:ImmK s2.heap h':=ImmK.but hE fun o' e'=>by
   rw [god] at e';cases e';exact fun i=>i.not_dict es ep dod
  have CH:ConcH B (H2.set r (.robj dd (some t))) h':=by
   intro b obj e
   by_cases q:b=r
   ·subst q
    rw [Hp.set_self] at e;cases e
    exact ⟨RoAt.mk ob C (hE _ _ (Ne.symm ne) g) cc hr dc dt ne (by rw [Hp.set_other _ _ ne];exact hx) hn',(c2.hp b _ e1).2⟩
   ·rw [Hp.set_other _ _ q] at e
    obtain ⟨x,y⟩:=c2.hp b obj e
    by_cases q2:b=dd
    ·subst q2
     rw [hx] at e;cases e
     obtain ⟨o',es',ep',g',d',_⟩:=hn'
     exact ⟨⟨o',es',ep',g',d'⟩,y⟩
    ·refine ⟨x.pres hI (fun o' e'=>hE _ _ q2 e') fun d2 t2 qq=>?_,y⟩
     subst qq
     have hd2:=RoAt.aux x
     have hne:d2≠dd:=fun z=>by subst z;rw [hx] at hd2;cases hd2;exact q rfl
     exact ⟨by rw [Hp.set_other _ _ (fun z=>by subst z;rw [e1] at hd2;cases hd2)];exact hd2,fun o' e'=>hE _ _ hne e'⟩
  have K:Keep noOwn H2 s2 (H2.set r (.robj dd (some t))) { s2 with heap:=h',toks:=tk' }:=
   ⟨fun b o' e hn _=>⟨⟨o',hE _ _ (fun z=>by subst z;rw [hx] at hn;cases hn) e,.refl o'⟩,by rw [Hp.set_other];exact hn;intro z;subst z;rw [e1] at hn;cases hn⟩,Nat.le_of_eq hs.1.symm,rfl,rfl⟩
  exact post_next (c2.keep K CH (StaysIn.but c2.base hE bdd)) (((KeepS.of_keep k1).trans (.of_keep k2)).trans (.of_keep K)) hq
 obtain ⟨hp,gs,dr,tk,os⟩:=s2
 refine told_store hC hns z3 z4 g cc dc hn (fun h' tk' hn' hs=>fin h' tk' ?_ hs) told_within (by decide)
 rw [show (fun y=>if y=told then some (Value.ref t) else if y=told then t0.map Value.ref else none)=fun y=>if y=told then some (Value.ref t) else none from funext fun y=>by by_cases q:y=told <;> simp [q]] at hn'
 exact hn'
theorem unpack_tuple {t:Addr} {items:Array Value} {targets:List (Bool×(Value->Sem Unit))} {Q:Unit->Shared->Prop} (hh:HandOk A.handled s.heap) (ht:s.heap.IsTuple t items)
  (hn:targets.length=items.size) (hstar:targets.findIdx? (·.1)=none)
  (h:∀h',Heap.ExtBut s.heap.objs.size s.heap h'->s.heap.objs.size<=h'.objs.size->wpAny (model prog w) A (assignInOrder (targets.map (·.2)) items.toList) Q E { s with heap:=h' }) :
  wpAny (model prog w) A (unpack (.ref t) targets) Q E s:=by
 unfold unpack
 rw [hn,hstar]
 have hlt:t≠s.heap.objs.size:=by obtain ⟨o,ho,_⟩:=ht;exact Nat.ne_of_lt (Heap.lt_size ho)
 refine wpAny_bind (wpAny_holding ?_)
 unfold unpackItems
 refine wpAny_bind ?_
 unfold notIterableAtAll
 refine wpAny_bind (wpAny_specialOf ht.typeIs F.slot_tuple_iter.lookup ?_)
 refine wpAny_pure ?_
 simp only [Bool.false_eq_true,if_false]
 refine wpAny_bind (wpAny_holding (wpAny_pyIter_tuple ht ?_))
 refine wpAny_bind (wpAny_holding (wpAny_draw_tuple hlt items.size 0 _ _ ⟨_,Heap.get?_push_size _ rfl,rfl,rfl⟩ (ht.push _) (by exact jl0 (jc1 _) (jA (jK 0) j0) j0 rfl) fun h₁ hit₁ hs₁=>?_))
 have hall:List.take items.size (List.drop 0 items.toList)=items.toList:=by
  rw [List.drop_zero];exact List.take_of_length_le (by simp)
 rw [hall]
 rw [if_neg (by simp)]
 have ht₁:h₁.IsTuple t items:=(ht.push _).extBut hs₁.extBut hlt
 have hE1:Heap.ExtBut s.heap.objs.size s.heap h₁:=fun b o hb e=>hs₁.extBut b o hb (Heap.get?_push_of_some _ e)
 have hz1:h₁.objs.size=s.heap.objs.size+1:=by rw [hs₁.1];exact Heap.size_push ..
 obtain ⟨hand,he,hch⟩:=hh
 have hch1:Chain h₁ hand:=hch.pres (fun a o e i=>⟨o,hE1 a o (Nat.ne_of_lt (Heap.lt_size e)) e,.refl o⟩)
 refine wpAny_bind (wpAny_holding (next_tuple_end (s:={ s with heap:=h₁ }) he hch1 hit₁ ht₁ (by simp) fun h₂ he₂ hz₂=>?_))
 simp only [Option.isSome_none,Bool.false_eq_true,if_false]
 have hz2:h₁.objs.size<=h₂.objs.size:=hz₂
 refine wpAny_pure (h h₂ (fun b o hb e=>he₂ b o hb (hE1 b o hb e)) (by exact jl2 (jc3 _ _ _) (jA j0 (jK 1)) j2 j2 j1 j0 j1 rfl (Nat.le_of_eq (Eq.symm hz1)) hz2))
theorem each_names {sc:List (Str×NameKind)}:∀{is:List Nat} {ts:List Expr},namesOk sc vs is ts=true->(assignEach ts env).length=is.length/\(assignEach ts env).findIdx? (·.1)=none
 | [],ts,h=>by
  cases ts with
  | nil=>exact ⟨rfl,rfl⟩
  | cons _ _=>simp [namesOk] at h
 | i::is,ts,h=>by
  cases ts with
  | nil=>simp [namesOk] at h
  | cons t r=>
   cases t <;> simp only [namesOk] at h <;> try (exact absurd h Bool.false_ne_true)
   simp only [Bool.and_eq_true] at h
   obtain ⟨h1,h2⟩:=each_names h.2
   rename_i x p
   show ((false,assign (.Name x p) env)::assignEach r env).length=_/\((false,assign (.Name x p) env)::assignEach r env).findIdx? _=none
   refine ⟨by simp [h1],?_⟩
   rw [List.findIdx?_cons,h2];rfl
theorem assign_names (fs:FSt B env A) {Q:Unit->Shared->Prop}:∀{is:List Nat} {ts:List Expr} {ds:List D} {us:List Value} {loc:Loc} {s:Shared},namesOk env.scope.names vs is ts=true->ds.length=is.length->RepL B s.heap ds us->Conc B env vs loc H s ->
  (∀s',Conc B env vs (setAll loc is ds) H s'->KeepS env H s H s'->Q () s')->wpAny (model prog w) A (assignInOrder ((assignEach ts env).map (·.2)) us) Q E s
 | [],ts,ds,us,loc,s,h,hl,r,c,hQ=>by
  cases ts with
  | cons _ _=>simp [namesOk] at h
  | nil=>
   cases ds with
   | cons _ _=>simp at hl
   | nil=>
    simp only [RepL] at r;subst r
    exact wpAny_pure (hQ s c .refl)
 | i::is,ts,ds,us,loc,s,h,hl,r,c,hQ=>by
  cases ts with
  | nil=>simp [namesOk] at h
  | cons t rt=>
   cases ds with
   | nil=>simp at hl
   | cons d ds=>
    simp only [RepL] at r
    obtain ⟨v,us,rfl,rv,rr⟩:=r
    cases t <;> simp only [namesOk] at h <;> try (exact absurd h Bool.false_ne_true)
    simp only [Bool.and_eq_true] at h
    rename_i x p
    show wpAny _ _ (holding us (assign (.Name x p) env v) >>= fun _=>assignInOrder ((assignEach rt env).map (·.2)) us) Q E s
    refine wpAny_bind (wpAny_holding (wpAny_assign_Name (store_sound h.1 rfl c rv fs.loc0 fs.cells0 fun s' c' k'=>?_)))
    refine assign_names fs h.2 (by simpa using hl) (rr.pres (c.imm (loc':=loc) k')) c' fun s'' c'' k''=>hQ s'' ?_ (k'.trans k'')
    simpa only [setAll] using c''
theorem snd_assignT {is:List Nat} {e:Ex} (hsn:∀x,Snd prog w B T n x):SndS prog w B T n (.assignT is e):=by
 intro st env vs loc H A s hc fs aok c Q X h
 refine invS_assignT hc fun ts x1 py value pos h1 h2 h3=>?_
 ·
  refine wpAny_Assign_stores (wpAny_mono ((hsn e value _ env vs loc H A s h2 (.self env) aok c).1 _ _ h) (fun v s1 hp=>?_) fun _ _ q=>SExc.of .refl q) (by cases value <;> rfl) (by cases value <;> first | rfl | cases h3)
  obtain ⟨d,H1,r1,c1,k1,ds,rfl,hlen,q1⟩:=hp
  simp only [Rep] at r1
  obtain ⟨t,us,ne,rfl,g,hz,hr⟩:=r1
  have a1:=aok.keep c.hp k1
  obtain ⟨e1,e2⟩:=each_names (env:=env) h1
  show wpAny _ _ (assign (.Tuple ts x1 py) env (.ref t)) _ _ s1
  rw [arm_assign_Tuple]
  have hl':=hr.length
  simp only [Array.length_toList] at hl'
  have hT:s1.heap.IsTuple t us:=⟨_,g,rfl,ne,rfl⟩
  refine wpAny_bind (wpAny_standAt (unpack_tuple a1.hand hT (by exact Nat.le_antisymm (jl3 (jc4 _ _ _ _) j0 j2 j3 j1 j2 j3 j0 j1 rfl (Nat.le_of_eq e1) (Nat.le_of_eq (Eq.symm hl')) (Nat.le_of_eq (Eq.symm hlen))) (jl3 (jc4 _ _ _ _) j2 j1 j0 j3 j3 j2 j0 j1 rfl (Nat.le_of_eq (Eq.symm e1)) (Nat.le_of_eq hl') (Nat.le_of_eq hlen))) e2 fun h' hE hz'=>?_))
  have k2:∀a o,s1.heap.get? a=some o->h'.get? a=some o:=fun a o e=>hE a o (Nat.ne_of_lt (Heap.lt_size e)) e
  have K2:Keep noOwn H1 s1 H1 { s1 with heap:=h' }:=.grow k2 hz' rfl rfl
  have c2:Conc B env vs loc H1 { s1 with heap:=h' }:=c1.keep K2 (c1.hp.grow k2) (fun a o e=>k2 a o (c1.base a o e))
  exact assign_names fs h1 hlen (hr.pres (.grow k2)) c2 fun s' c' k'=>post_next c' (((KeepS.of_keep k1).trans (.of_keep K2)).trans k') q1
end
end Mine
set_option Elab.async false
namespace Mine
open PySem PyProof.Rows
structure Def where
 vs:List Str
 np:Nat
 body:List St
noncomputable def scNameOk (sc:List (Str×NameKind)):Bool:=sc.all fun nk=>nk.2 != .free
noncomputable def paramOk (sc:List (Str×NameKind)) (x:Str):Bool:=sc.lookup x==some .local||sc.lookup x==some .cell
noncomputable def argsOk (a:Arguments):Bool:=onNil a.posonlyargs&&onNone a.vararg&&onNil a.kwonlyargs&&onNil a.kw_defaults&&(onNone a.kwarg&&onNil a.defaults)
theorem argsOk_eq {a:Arguments} (h:argsOk a=true):a={ posonlyargs:=[],args:=a.args,vararg:=none,kwonlyargs:=[],kw_defaults:=[],kwarg:=none,defaults:=[] }:=by
 obtain ⟨x1,x2,x3,x4,x5,x6,x7⟩:=a
 refine and5 h fun h1 h2 h3 h4 h=>and2 h fun h5 h6=>?_
 exact iNil (l:=x1) (P:=fun y=>Arguments.mk y x2 x3 x4 x5 x6 x7=⟨[],x2,none,[],[],none,[]⟩) h1 (iNone (o:=x3) (P:=fun y=>Arguments.mk [] x2 y x4 x5 x6 x7=⟨[],x2,none,[],[],none,[]⟩) h2
  (iNil (l:=x4) (P:=fun y=>Arguments.mk [] x2 none y x5 x6 x7=⟨[],x2,none,[],[],none,[]⟩) h3 (iNil (l:=x5) (P:=fun y=>Arguments.mk [] x2 none [] y x6 x7=⟨[],x2,none,[],[],none,[]⟩) h4
  (iNone (o:=x6) (P:=fun y=>Arguments.mk [] x2 none [] [] y x7=⟨[],x2,none,[],[],none,[]⟩) h5 (iNil (l:=x7) (P:=fun y=>Arguments.mk [] x2 none [] [] none y=⟨[],x2,none,[],[],none,[]⟩) h6 rfl)))))
noncomputable def nodupB:List Str->Bool
 | []=>true
 | x::r=>!r.contains x&&nodupB r
noncomputable def chkDef (T:Tab) (D:Def) (d:DefRec):Bool:=
 argsOk d.params&&(d.params.args.map (·.arg)==D.vs.take D.np)&&nodupB (D.vs.take D.np)&&(d.scope.kind==.function)&&!d.scope.isCoroutine&&!d.scope.isGenerator &&
  scNameOk d.scope.names&&(D.vs.take D.np).all (paramOk d.scope.names)&&chkSs T d.scope.names D.vs D.body d.body
theorem nodup_of:∀{l:List Str},nodupB l=true->l.Nodup
 | [],_=>List.nodup_nil
 | x::r,h=>by
  simp only [nodupB,Bool.and_eq_true,Bool.not_eq_true',List.contains_eq_mem,decide_eq_false_iff_not] at h
  exact List.nodup_cons.mpr ⟨h.1,nodup_of h.2⟩
theorem lookup_not_free:∀{sc:List (Str×NameKind)} {x:Str},scNameOk sc=true->sc.lookup x≠some .free
 | [],_,_=>by simp
 | (y,k)::r,x,h=>by
  simp only [scNameOk,List.all_cons,Bool.and_eq_true] at h
  rw [List.lookup_cons]
  split
  ·intro q;cases q;simp at h
  ·exact lookup_not_free (sc:=r) h.2
theorem cellsFrom_some:∀{names:List (Str×NameKind)} {n:Nat} {acc:List (Str×Addr)} {x:Str},(names.lookup x=some .cell\/∃c,acc.lookup x=some c)->∃c,(cellsFrom n names acc).lookup x=some c
 | [],n,acc,x,h=>by
  rcases h with h | h
  ·simp at h
  ·exact h
 | (y,k)::r,n,acc,x,h=>by
  unfold cellsFrom
  split
  ·rename_i hk
   refine cellsFrom_some ?_
   by_cases hxy:x=y
   ·subst hxy;exact Or.inr ⟨n,by simp [List.lookup_cons]⟩
   ·have hb:(x==y)=false:=by simpa using hxy
    rw [List.lookup_cons,hb] at h
    rcases h with h | ⟨c,h⟩
    ·exact Or.inl h
    ·exact Or.inr ⟨c,by rw [List.lookup_cons,hb];exact h⟩
  ·rename_i hk
   refine cellsFrom_some ?_
   by_cases hxy:x=y
   ·subst hxy
    rcases h with h | h
    ·simp [List.lookup_cons] at h;subst h;simp at hk
    ·exact Or.inr h
   ·have hb:(x==y)=false:=by simpa using hxy
    rw [List.lookup_cons,hb] at h
    exact h
theorem bindL_pre {kd:Str->Option NameKind}:∀{binds:List (Str×Value)} {m:Str->Option Value} {x:Str},(∀p∈binds,p.1≠x)->bindL kd binds m x=m x
 | [],_,_,_=>rfl
 | (y,v)::r,m,x,h=>by
  unfold bindL
  rw [bindL_pre fun p hp=>h p (List.mem_cons_of_mem _ hp)]
  have:x≠y:=fun q=>h (y,v) (by simp) q.symm
  split
  ·simp [this]
  ·rfl
theorem bindC_pre {kd:Str->Option NameKind}:∀{binds:List (Str×Value)} {m:Str->Option Value} {x:Str},(∀p∈binds,p.1≠x)->bindC kd binds m x=m x
 | [],_,_,_=>rfl
 | (y,v)::r,m,x,h=>by
  unfold bindC
  rw [bindC_pre fun p hp=>h p (List.mem_cons_of_mem _ hp)]
  have:x≠y:=fun q=>h (y,v) (by simp) q.symm
  split
  ·rfl
  ·simp [this]
theorem zip_fst_mem {ns:List Str} {us:List Value} {p:Str×Value} (h:p∈ns.zip us):p.1∈ns:=(List.of_mem_zip (a:=p.1) (b:=p.2) h).1
theorem bindL_at {kd:Str->Option NameKind} {x:Str} {v:Value} (hk:kd x=some .local):∀{ns:List Str} {us:List Value} {m:Str->Option Value} {i:Nat},ns.Nodup->ns[i]?=some x->us[i]?=some v->bindL kd (ns.zip us) m x=some v
 | [],_,_,_,_,h,_=>by simp at h
 | n::ns,[],_,_,_,_,h=>by simp at h
 | n::ns,u::us,m,0,hn,h1,h2=>by
  simp at h1 h2;subst h1 h2
  rw [List.zip_cons_cons];unfold bindL
  rw [bindL_pre (x:=n) (binds:=ns.zip us) fun p hp q=>(List.nodup_cons.mp hn).1 (q ▸ zip_fst_mem hp),if_pos hk]
  simp
 | n::ns,u::us,m,i+1,hn,h1,h2=>by
  rw [List.zip_cons_cons];unfold bindL
  exact bindL_at hk (List.nodup_cons.mp hn).2 (by simpa using h1) (by simpa using h2)
theorem bindC_at {kd:Str->Option NameKind} {x:Str} {v:Value} (hk:kd x≠some .local):∀{ns:List Str} {us:List Value} {m:Str->Option Value} {i:Nat},ns.Nodup->ns[i]?=some x->us[i]?=some v->bindC kd (ns.zip us) m x=some v
 | [],_,_,_,_,h,_=>by simp at h
 | n::ns,[],_,_,_,_,h=>by simp at h
 | n::ns,u::us,m,0,hn,h1,h2=>by
  simp at h1 h2;subst h1 h2
  rw [List.zip_cons_cons];unfold bindC
  rw [bindC_pre (x:=n) (binds:=ns.zip us) fun p hp q=>(List.nodup_cons.mp hn).1 (q ▸ zip_fst_mem hp),if_neg hk]
  simp
 | n::ns,u::us,m,i+1,hn,h1,h2=>by
  rw [List.zip_cons_cons];unfold bindC
  exact bindC_at hk (List.nodup_cons.mp hn).2 (by simpa using h1) (by simpa using h2)
@[simp] noncomputable def loc0 (df:Def) (ds:List D):Loc:=ds.map some++List.replicate (df.vs.length - df.np) none
noncomputable def FnAt (B:Bs) (f:Nat) (d:DefRec):Prop:=∃o pm cd doc qual,B.base.get? (B.fa f)=some o/\o.data=.func (methDef d.name qual d.params d.body d.scope pm cd doc)/\B.base.CodeRec cd qual
noncomputable def retQ (Q:D->Hp->Prop):Fl->Loc->Hp->Prop:=fun fl _ H'=>match fl with
 | .ret d=>Q d H'
 | .next=>Q .none H'
 | _=>False
section
variable {prog:Program} {w:World} {B:Bs} {T:Tab} {n:Nat} {A:Around} {s:Shared} {H:Hp}
theorem exc_note {env:Env} {vs:List Str} {loc:Loc} {X:Nat->Loc->Hp->Prop} {E:Value->Shared->Prop} {P:Unit->Shared->Prop} {e:Value} {s':Shared} (fs:FSt B env A) (a0:AOk B A n H s.heap) (c0:Conc B env vs loc H s) (x:SExc B env vs H s X e s') (h:∀s'',SExcT B env vs H s X e s''->P () s''):wpAny (model prog w) A (noteFrame e env) P E s':=by
 obtain ⟨k,l',H',a,rfl,x1,c1,k1,hx⟩:=x
 obtain ⟨outer,e1,f1⟩:=(a0.keepS (loc':=loc) c0 k1).framesOf fs
 obtain ⟨L,hL⟩:=fs.frame
 exact note_sound e1 f1 hL x1 (fun b hb=>base_none_of_ge c0.base hb) fun s'' K t=>h s'' ⟨k,l',H',a,rfl,t,K.conc c1,K.keepS k1,hx⟩
theorem call_intro (hnl:B.base.NoLimit) {f:Nat} {d:DefRec} {D:Def} {ds:List Mine.D} {Q:Mine.D->Hp->Prop} {X:Nat->Hp->Prop} (hsn:∀x,SndSs prog w B T n x) (hfn:FnAt B f d) (hck:chkDef T D d=true) (hl:ds.length=D.np) (hvl:D.np<=D.vs.length)
  (h:vSs B.ns (CallS prog w B n) D.body (loc0 D ds) H (retQ Q) fun k _ H'=>X k H'):CallS prog w B (n+1) f ds H Q X:=by
 intro A s vals aok CH SB rl
 obtain ⟨o,pm,cd,doc,qual,ho,hdat,hcd⟩:=hfn
 simp only [chkDef,Bool.and_eq_true,beq_iff_eq,Bool.not_eq_true'] at hck
 obtain ⟨⟨⟨⟨⟨⟨⟨⟨g1,g2⟩,g3⟩,g4⟩,g5⟩,g6⟩,g7⟩,g8⟩,g9⟩:=hck
 have hnames:=nodup_of g3
 have hlen:vals.length=D.np:=rl.length.trans hl
 have hpl:d.params.args.length=D.np:=by
  have:=congrArg List.length g2
  simpa [hvl] using this
 have hparams:=argsOk_eq g1
 have hbind:=bind_pos (fd:=methDef d.name qual d.params d.body d.scope pm cd doc) (vals:=vals) hparams rfl (by rw [g2];exact hnames) (by exact Nat.le_antisymm (jl2 (jc3 _ _ _) j0 j2 j2 j1 j0 j1 rfl (Nat.le_of_eq hlen) (Nat.le_of_eq (Eq.symm hpl))) (jl2 (jc3 _ _ _) j2 j1 j0 j2 j0 j1 rfl (Nat.le_of_eq (Eq.symm hlen)) (Nat.le_of_eq hpl)))
 rw [g2] at hbind
 have hmem:∀x∈(D.vs.take D.np).zip vals,d.scope.names.lookup x.1=some .local\/d.scope.names.lookup x.1=some .cell:=fun x hx=>by
  have:=List.all_eq_true.mp g8 x.1 (zip_fst_mem hx)
  simpa [paramOk] using this
 refine wpAny_call (codeAny_call_cells (by have:=aok.depth;unfold recursionLimit;exact jl1 (jc2 _ _) (jA j0 (jA j1 (jK 1))) (jK 990) (jA j0 (jK 1)) (jK 1000) rfl this) (SB _ _ ho) hdat (hnl.keeps SB) (hcd.keeps SB) rfl hbind rfl (fun x hx=>?_) (fun s1 I=>?_) g5 g6 g4)
 ·rcases hmem x hx with q | q
  ·exact Or.inl q
  ·obtain ⟨c,hc⟩:=cellsFrom_some (n:=s.heap.objs.size+1) (acc:=[]) (Or.inl q)
   exact Or.inr ⟨q,by rw [show (methDef d.name qual d.params d.body d.scope pm cd doc).scope.names=d.scope.names from rfl,hc];rfl⟩
 generalize henv:callEnvC (methDef d.name qual d.params d.body d.scope pm cd doc) s.heap.objs.size (B.fa f)=env at I ⊢
 have eL:env.locals=s.heap.objs.size:=by rw [<-henv];rfl
 have eS:env.scope=d.scope:=by rw [<-henv];rfl
 have eK:∀x,env.kindOf x=d.scope.names.lookup x:=fun x=>by rw [<-henv];rfl
 have eC:env.cells=cellsFrom (s.heap.objs.size+1) d.scope.names []:=by rw [<-henv];rfl
 have eF:env.frame=some env.locals:=by rw [<-henv];rfl
 have old:=I.toInCall.keep
 have hge:∀{b:Addr},s.heap.objs.size<=b->H b=none:=fun {b} hb=>by
  cases q:H b with
  | none=>rfl
  | some ob=>exact absurd (CH.lt q) (Nat.not_lt.mpr hb)
 have hcge:∀x c,env.cells.lookup x=some c->s.heap.objs.size<=c:=fun x c hc=>by
  have:=I.above x c (PySem.mem_of_lookup hc)
  rw [eL] at this
  exact Nat.le_of_lt this
 have hget:∀x i dd,ix D.vs x=some i->(loc0 D ds)[i]?=some (some dd)->i < D.np/\(D.vs.take D.np)[i]?=some x/\∃v,vals[i]?=some v/\Rep B s1.heap dd v:=fun x i dd h1 h2=>by
  unfold loc0 at h2
  rw [List.getElem?_append] at h2
  split at h2
  ·rename_i hi
   simp only [List.length_map] at hi
   rw [List.getElem?_map] at h2
   obtain ⟨d',hd',e'⟩:=Option.map_eq_some_iff.mp h2
   cases e'
   obtain ⟨v,hv,rv⟩:=rl.get hd'
   refine ⟨by exact jk65 hi hl,?_,v,hv,rv.pres (.grow old)⟩
   rw [List.getElem?_take]
   rw [if_pos (by exact jk65 hi hl)]
   exact ix_get h1
  ·rw [List.getElem?_replicate] at h2
   split at h2 <;> cases h2
 have hfree:∀x,env.kindOf x≠some .free:=fun x=>by rw [eK];exact lookup_not_free g7
 have F:FrOk B env D.vs (loc0 D ds) H s1.heap:=by
  refine ⟨by rw [eS];exact g4,by rw [<-henv];rfl,by rw [<-henv];rfl,⟨_,I.toInCall.ns,fun x i dd h1 h2 h3=>?_⟩,fun x hx=>?_,fun x c hx=>⟨⟨_,I.cell x c hx⟩,hge (hcge x c hx)⟩,by rw [eL];exact hge (Nat.le_refl _),fun x y c hx hy=>PySem.name_of_addr I.apart (PySem.mem_of_lookup hx) (PySem.mem_of_lookup hy)⟩
  ·obtain ⟨_,h4,v,hv,rv⟩:=hget x i dd h1 h2
   exact ⟨v,bindL_at h3 hnames h4 hv,rv⟩
  ·have hx':env.kindOf x=some .cell:=hx.resolve_right (hfree x)
   obtain ⟨c,hc⟩:=cellsFrom_some (n:=s.heap.objs.size+1) (acc:=[]) (Or.inl ((eK x).symm.trans hx'))
   rw [<-eC] at hc
   refine ⟨c,_,hc,I.cell x c hc,hge (hcge x c hc),fun i dd h1 h2=>?_⟩
   obtain ⟨_,h4,v,hv,rv⟩:=hget x i dd h1 h2
   exact ⟨v,bindC_at (by rw [hx'];decide) hnames h4 hv,rv⟩
 have C1:Conc B env D.vs (loc0 D ds) H s1:=⟨F,CH.grow old,fun a o e=>old a o (SB a o e)⟩
 obtain ⟨h1,tk,hs1⟩:=I.toInCall.same
 have hsz:s.heap.objs.size<=s1.heap.objs.size:=by
  obtain ⟨oL,_,_,eLL,_⟩:=I.toInCall.ns
  have:=Heap.lt_size eLL
  rw [eL] at this
  exact Nat.le_of_lt this
 have K0:Keep noOwn H s H s1:=.grow old hsz (by rw [hs1]) (by rw [hs1])
 have hb0:B.base.get? env.locals=none:=by rw [eL];exact base_none_of_ge SB (Nat.le_refl _)
 have a1:AOk B (A.deeper env) n H s1.heap:=by
  have a0:=aok.keep CH K0
  refine ⟨by have:=aok.depth;simp only [Around.deeper];exact jl1 (jc2 _ _) (jA j0 (jA j1 (jK 1))) (jK 990) (jA (jA j0 (jK 1)) j1) (jK 990) rfl this,by have:=aok.units;simp only [Around.deeper];exact jl1 (jc2 _ _) (jA j0 (jM 10 (jA j1 (jK 1)))) (jK 9000) (jA (jA j0 (jK 3)) (jM 10 j1)) (jK 9000) rfl this,?_,aok.guards,a0.hand⟩
  obtain ⟨l,e,fo⟩:=a0.frames
  refine ⟨env::l,by simp [Around.deeper,e],fun e' he'=>?_⟩
  rcases List.mem_cons.mp he' with rfl | he'
  ·obtain ⟨oL,es,ep,eLL,hd,_⟩:=I.toInCall.ns
   exact ⟨by rw [eS,g4];decide,e'.locals,oL,es,ep,eF,hb0,F.noown,eLL,hd⟩
  ·exact fo e' he'
 have fs:FSt B env (A.deeper env):=by
  obtain ⟨l,e,_⟩:=aok.frames
  exact ⟨⟨l,by simp [Around.deeper,e]⟩,⟨_,eF⟩,hb0,fun y a hy=>base_none_of_ge SB (hcge y a hy)⟩
 have down:∀{H':Hp} {s':Shared},KeepS env H s1 H' s'->Keep noOwn H s H' s':=fun {H' s'} k=>by
  refine ⟨fun a o e hn _=>?_,Nat.le_trans hsz k.keep.size,k.keep.gens.trans (by rw [hs1]),k.keep.os.trans (by rw [hs1])⟩
  refine k.keep.obj a o (old a o e) hn ?_
  have hlt:@LT.lt Nat _ a s.heap.objs.size:=Heap.lt_size e
  rintro (q | ⟨x,q⟩)
  ·rw [eL] at q;rw [q] at hlt;exact Nat.lt_irrefl _ hlt
  ·exact absurd hlt (Nat.not_lt.mpr (hcge x a q))
 refine wpAny_mono (hsn D.body d.body env D.vs (loc0 D ds) H (A.deeper env) s1 (by rw [eS];exact g9) fs a1 C1 _ _ h) (fun f s' hp=>?_) fun e s' hx=>?_
 ·obtain ⟨fl,l',H',hf,c',k',q'⟩:=hp
  cases fl with
  | next=>
   have:f=.next:=hf
   subst this
   exact ⟨.none,H',by simp only [Rep],c'.hp,c'.base,down k',q'⟩
  | brk=>exact q'.elim
  | cont=>exact q'.elim
  | ret dd=>
   obtain ⟨v,rfl,r⟩:=hf
   exact ⟨dd,H',r,c'.hp,c'.base,down k',q'⟩
 ·unfold leaving
  refine wpAny_bind (exc_note fs a1 C1 hx fun s'' ht=>?_)
  obtain ⟨k,l',H',a,rfl,x1,c1,k1,hx'⟩:=ht
  refine flight_sound x1.1 (fun b hb=>base_none_of_ge C1.base hb) fun s3 K3 x3 _=>?_
  have c3:=K3.conc c1
  exact ⟨k,H',a,rfl,x3.le hsz,c3.hp,c3.base,down (K3.keepS k1),hx'⟩
end
end Mine
set_option Elab.async false
set_option maxRecDepth 100000
namespace Mine
open PySem PyProof.Rows
noncomputable abbrev veMro:List Value:=[.type "ValueError",.type "Exception",.type "BaseException",.type "object"]
inductive ClsAt (B:Bs) (k:Nat):Prop
 | mk (C N:Addr) (nm q:Str) (bs bm:List Value) (hdct:Bool) (sn:List Str) (sub:List Value) (ab:Bool) (col:Option Bool) (dd:Option Addr) (k0 k1 k2 k3 k5:Option Value) (mN:Str->Option Value)
  (e1:B.clsv k=.ref C) (hC:B.base.get? C=some (excClassObj nm q C N bs bm hdct sn sub ab col dd k0 k1 k2 k3 k5 "ValueError.__new__")) (hN:B.base.Ns N mN) (hni:mN "__init__" = none) (hT:OwnTail B.base veMro bm)
  (hsub:∀c C',B.clsv c=.ref C'->(Value.ref C::bm).contains (.ref C')=subc k c)
noncomputable def EOk (B:Bs):Prop:=∀k C,B.clsv k=.ref C->ClsAt B k
section
variable {prog:Program} {w:World} {A:Around} {E:Value->Shared->Prop} {h:Heap} {g:Array GenState} {d:Drawn} {t:Nat} {os:OsState}
variable {nm q:Str} {C N:Addr} {bs bm bmB:List Value} {hdct:Bool} {sn:List Str} {sub:List Value} {ab:Bool} {col:Option Bool} {dd:Option Addr} {k0 k1 k2 k3 k5:Option Value} {newId initId:String}
theorem make_exc {X:String} (F:ExcBaseFacts X newId initId bmB) (T:OwnTail h bmB bm) {mN:Str->Option Value} {rest:List Value} {Q:Fin->Shared->Prop}
  (hC:h.get? C=some (excClassObj nm q C N bs bm hdct sn sub ab col dd k0 k1 k2 k3 k5 newId)) (hn:h.Ns N mN) (hni:mN "__init__" = none)
  (hq:∀h' e,Heap.MadeExcOf h h' e (.ref C) rest->h.objs.size<=e->h.objs.size<=h'.objs.size->Q (.done (.ret (.ref e))) ⟨h',g,d,t,os⟩) (hrest:rest.length<=sizeLine:=by size_fits) :
  wpAny (model prog w) A (Builtin.«type.__call__» ⟨.ref C::rest,[]⟩) Q E ⟨h,g,d,t,os⟩:=by
 repeat (first | with_reducible refine wpAny_loadPart_at hC ?_ | with_reducible refine wpAny_madeBy_exc hC ?_ | wp_step)
 refine codeAny_call_builtin_code (Code.quiet_builtin _ F.quiet) (wpAny_check_new_subT F T hC ?_)
 refine codeAny_exc_new_subT F T hC ?_ hrest
 show wpAny _ _ _ _ _ _
 generalize ho1:({ cls:=.type "tuple",data:=.seq rest.toArray }:Obj)=o1
 generalize ho2:({ cls:=.ref C,data:=.fields #[.ref h.objs.size,.none,.none,.none,.bool false,.none] }:Obj)=o2
 have up:∀b o,h.get? b=some o->((h.push o1).push o2).get? b=some o:=fun b o e=>Heap.get?_push_of_some _ (Heap.get?_push_of_some _ e)
 have hC₁:=up _ _ hC
 have hn₁:=hn.keeps up
 have hget:((h.push o1).push o2).get? (h.objs.size+1)=some o2:=by
  have:=Heap.get?_push_size (h.push o1) (o:=o2) (by rw [<-ho2];rfl)
  rwa [Heap.size_push] at this
 have hcC:(Value.ref C::bm).contains (.ref C)=true:=by simp
 have T₁:=T.keeps up
 subst ho1 ho2
 unfold isInstance
 repeat (first | with_reducible refine wpAny_loadPart_at hget ?_ | (with_reducible refine wpAny_isSubtype_exc hC₁ ?_;rw [hcC]) | wp_step)
 show wpAny _ _ (typeLookup (.ref C) _) _ _ _
 refine wpAny_typeLookup_tail hC₁ hn₁ T₁ F.mroIs F.init.lookup ?_
 rw [hni]
 refine wpAny_holding (wpAny_bind (wpAny_of_eq (F.init.bind _) ?_))
 refine wpAny_bind (wpAny_call (codeAny_call_builtin F.init.plain F.initEntry (wpAny_check_init_subT F T₁ hC₁ hget rfl ?_)))
 wp_walk
 refine hq _ _ ⟨fun b o hb=>?_,Heap.get?_none_of_le (Nat.le_succ _),h.objs.size+2,?_,Heap.get?_none_of_le (by exact jl0 (jc1 _) j0 (jA j0 (jK 2)) rfl),?_⟩ (Nat.le_succ _) ?_
 ·rw [Heap.get?_update_other _ _ (Nat.ne_of_gt (Nat.lt_succ_of_lt (Heap.lt_size hb)))]
  exact Heap.get?_push_of_some _ (up b o hb)
 ·rw [Heap.get?_update_self _ (Heap.get?_push_of_some _ hget) rfl]
  simp only [Heap.size_push]
  rfl
 ·rw [Heap.get?_update_other _ _ (show h.objs.size+1≠h.objs.size+2 by exact Nat.ne_of_lt (jl0 (jc1 _) (jA (jA j0 (jK 1)) (jK 1)) (jA j0 (jK 2)) rfl))]
  exact Heap.get?_push_at (by simp only [Heap.size_push]) rfl
 ·simp only [Heap.size_after_update,Heap.size_push];exact jl0 (jc1 _) j0 (jA (jA (jA j0 (jK 1)) (jK 1)) (jK 1)) rfl
theorem call_cls {X:String} (F:ExcBaseFacts X newId initId bmB) (T:OwnTail h bmB bm) {mN:Str->Option Value} {rest:List Value} {Q:Value->Shared->Prop}
  (hC:h.get? C=some (excClassObj nm q C N bs bm hdct sn sub ab col dd k0 k1 k2 k3 k5 newId)) (hn:h.Ns N mN) (hni:mN "__init__" = none)
  (hq:∀h' e,Heap.MadeExcOf h h' e (.ref C) rest->h.objs.size<=e->h.objs.size<=h'.objs.size->Q (.ref e) ⟨h',g,d,t,os⟩) (hrest:rest.length<=sizeLine:=by size_fits) :
  wpAny (model prog w) A (call (.ref C) rest) Q E ⟨h,g,d,t,os⟩:=by
 have f1:=tc_lookup
 have f2:=tc_bind (.ref C)
 have hT:(⟨h,g,d,t,os⟩:Shared).TypeIs (.ref C) "type" := ⟨_,hC,rfl⟩
 refine wpAny_call (codeAny_of_tree ?_)
 show wpAny _ _ (callAny (.ref C) _) _ _ _
 repeat (any_goals (first | assumption | with_reducible refine wpAny_loadPart_at hC ?_ | wp_step))
 refine ⟨rfl,?_⟩
 refine codeAny_call_builtin_at (Code.quiet_builtin _ (by decide+kernel)) entry_typeCall (wpAny_check_type_call_sub hC (make_exc (hrest:=hrest) F T hC hn hni fun h' e hm h1 h2=>?_))
 exact hq h' e hm h1 h2
theorem raise_made {M:Model} {s:Shared} {env:Env} {x:Sem Value} {Q:Flow->Shared->Prop} (hbase:bm.contains (.type "BaseException")=true)
  (hx:wpAny M A x (fun v s₁=>∃e t,v=.ref e/\s₁.heap.get? C=some (excClassObj nm q C N bs bm hdct sn sub ab col dd k0 k1 k2 k3 k5 newId) /\
   s₁.heap.get? e=some { cls:=.ref C,data:=.fields #[.ref t,.none,.none,.none,.bool false,.none] }/\wpAny M A (raiseNew (.ref e):Sem Flow) Q E s₁) E s) :
  wpAny M A (raiseStmt env (some x) none) Q E s:=by
 have hcB:(Value.ref C::bm).contains (.type "BaseException")=true:=by rw [List.contains_cons,hbase,Bool.or_true]
 unfold raiseStmt
 refine wpAny_bind (wpAny_mono hx (fun v s₁ h₁=>?_) fun _ _ x=>x)
 obtain ⟨e,t,rfl,hC,he,hE⟩:=h₁
 obtain ⟨hp,g,d,tk,os⟩:=s₁
 repeat (first | with_reducible refine wpAny_loadPart_at he ?_ | with_reducible refine wpAny_loadPart_at hC ?_ | (with_reducible refine wpAny_isSubtype_exc hC ?_;rw [hcB]) | exact hE | wp_step)
theorem matches_cls {M:Model} {e C2 N2:Addr} {oe:Obj} {Q:Bool->Shared->Prop} {nm2 q2:Str} {bs2 bm2:List Value} {hdct2:Bool} {sn2:List Str} {sub2:List Value} {ab2:Bool} {col2:Option Bool} {dd2:Option Addr} {l0 l1 l2 l3 l5:Option Value} {newId2:String} {b:Bool}
  (hC:h.get? C=some (excClassObj nm q C N bs bm hdct sn sub ab col dd k0 k1 k2 k3 k5 newId)) (he:h.get? e=some oe) (hcls:oe.cls=.ref C)
  (hC2:h.get? C2=some (excClassObj nm2 q2 C2 N2 bs2 bm2 hdct2 sn2 sub2 ab2 col2 dd2 l0 l1 l2 l3 l5 newId2)) (hbase:bm2.contains (.type "BaseException")=true)
  (hb:(Value.ref C::bm).contains (.ref C2)=b) (hq:Q b ⟨h,g,d,t,os⟩):wpAny M A (excMatches (.ref e) (.ref C2)) Q E ⟨h,g,d,t,os⟩:=by
 have hcB:(Value.ref C2::bm2).contains (.type "BaseException")=true:=by rw [List.contains_cons,hbase,Bool.or_true]
 have f:=tc_notTuple
 subst hb
 cases hb:(Value.ref C::bm).contains (.ref C2) with
 | true=>
  rw [hb] at hq
  unfold excMatches
  repeat (first | (with_reducible refine wpAny_loadPart_at he ?_;rw [hcls]) | with_reducible refine wpAny_loadPart_at hC2 ?_ | (with_reducible refine wpAny_isSubtype_exc hC2 ?_;rw [hcB]) | (with_reducible refine wpAny_isSubtype_exc hC ?_;rw [hb]) | wp_step)
  exact hq
 | false=>
  rw [hb] at hq
  unfold excMatches
  repeat (first | (with_reducible refine wpAny_loadPart_at he ?_;rw [hcls]) | with_reducible refine wpAny_loadPart_at hC2 ?_ | (with_reducible refine wpAny_isSubtype_exc hC2 ?_;rw [hcB]) | (with_reducible refine wpAny_isSubtype_exc hC ?_;rw [hb]) | wp_step)
  exact hq
end
end Mine
set_option Elab.async false
namespace Mine
open PySem PyProof.Rows
structure XOk (B:Bs) (T:Tab):Prop where
 at_:EOk B
 own:∀x k,T.clss.lookup x=some k->k<=6->∃C,B.clsv k=.ref C
section
variable {prog:Program} {w:World} {B:Bs} {T:Tab} {n:Nat} {env:Env} {vs:List Str} {loc:Loc} {A:Around} {E:Value->Shared->Prop} {s:Shared} {H:Hp}
theorem OwnTail.base_exc {h:Heap} {bm:List Value} (t:OwnTail h veMro bm):bm.contains (.type "BaseException")=true:=t.hasType (X:= "BaseException") (by decide)
theorem snd_raise {k:Nat} (hB:BOk prog w B T) (hX:XOk B T):SndS prog w B T n (.raise k):=by
 intro st env vs loc H A s hc fs aok c Q X h
 refine invS_raise hc fun x np msg u mp cpos pos h1 h2 h3 h4 h5=>?_
 ·
  obtain ⟨C0,hC0⟩:=hX.own x k h1 h2
  obtain ⟨C,N,nm,q,bs,bm,hdct,sn,sub,ab,col,dd,k0,k1,k2,k3,k5,mN,e1,hC,hN,hni,hT,hsub⟩:=hX.at_ k C0 hC0
  have hlit:chkEs T env.scope.names vs [.lit (.str msg.cps.toList)] [.Constant (.str msg) u mp]=true:=by
   show ((litOk (.str msg) (.str msg.cps.toList)||false)&&true)=true
   rw [h5];rfl
  rw [arm_exec_Raise]
  have hlook:=(hB.cls x k h1).1
  rw [e1] at hlook
  refine wpAny_bind (wpAny_standAt (raise_made (C:=C) (nm:=nm) (q:=q) (N:=N) (bs:=bs) (bm:=bm) (hdct:=hdct) (sn:=sn) (sub:=sub) (ab:=ab) (col:=col) (dd:=dd) (k0:=k0) (k1:=k1) (k2:=k2) (k3:=k3) (k5:=k5) (newId:= "ValueError.__new__") (OwnTail.base_exc hT)
   (wpAny_bind (wpAny_mono (wpAny_Call_NameR (load_glob hB h3 h4 c hlook ?_)) (fun v s₃ h₃=>wpAny_bind (wpAny_standAt (wpAny_pure h₃))) fun _ _ x=>x))))
  have hargs:=args_sound (es:=[.lit (.str msg.cps.toList)]) (Q:=fun ds H'=>H'=H) (X:=fun _ _=>False) cpos (fun e _=>snd hB e) hlit (.self env) aok c rfl
  rw [star_plain cpos hlit] at hargs ⊢
  unfold callWith
  refine wpAny_bind (wpAny_holding (evalArgs_list _ (wpAny_mono hargs (fun us s2 hp=>wpAny_bind (wpAny_standAt ?_)) fun _ _ q=>(comp_noexc q).elim)))
  obtain ⟨⟨ds,H2,r2,c2,k2',rfl⟩,hul⟩:=hp
  have a2:=aok.keep c.hp k2'
  simp only [plain_any]
  obtain ⟨hp,g,d,tk,os⟩:=s2
  have hul':us.length<=sizeLine:=by rw [hul];show 1<=sizeLine;decide
  refine wpAny_bind (wpAny_keeperOf_exc (c2.base _ _ hC) ?_)
  refine wpAny_bind (call_cls (hrest:=hul') PySem.F.excBase_ValueError (hT.keeps c2.base) (c2.base _ _ hC) (hN.keeps c2.base) hni fun h' e hm hge hsz=>wpAny_bind (wpAny_holding (wpAny_point (wpAny_pure ?_))))
  obtain ⟨tt,ht,_,_⟩:=hm.there
  refine ⟨e,tt,rfl,hm.keeps _ _ (c2.base _ _ hC),ht,?_⟩
  obtain ⟨hand,hhand,hch⟩:=a2.hand
  have hch':Chain h' hand:=hch.pres (.grow hm.keeps)
  have hne:e∉hand:=fun q=>by
   have:=Chain.lt hch e q
   exact absurd this (Nat.not_lt.mpr hge)
  refine raiseNew_any (s:=⟨h',g,d,tk,os⟩) ht rfl (by simp) hhand hch' hne fun h'' ctx hs he hz1 hz2=>?_
  have gr:∀b o,hp.get? b=some o->h''.get? b=some o:=fun b o eb=>by
   have hbe:b≠e:=fun q=>by subst q;rw [hm.new] at eb;cases eb
   rw [hs.2 b hbe];exact hm.keeps b o eb
  have hsz':hp.objs.size<=h''.objs.size:=by rw [hs.1];exact hsz
  have K:Keep noOwn H2 ⟨hp,g,d,tk,os⟩ H2 ⟨h'',g,d,tk,os⟩:=.grow gr hsz' rfl rfl
  have cF:Conc B env vs loc H2 ⟨h'',g,d,tk,os⟩:=c2.keep K (c2.hp.grow gr) (fun a o e=>gr a o (c2.base a o e))
  have hss:s.heap.objs.size<=hp.objs.size:=k2'.size
  have hce:Ctx2 h'' e ctx:=⟨_,C,_,he,rfl,rfl,by simp⟩
  refine ⟨k,loc,H2,e,rfl,⟨Nat.le_trans hss hge,_,_,C,he,rfl,e1,rfl,by simp,Or.inl (by simp),?_⟩,cF,(KeepS.of_keep k2').trans (.of_keep K),h⟩
  refine ⟨e::hand,rfl,?_⟩
  cases hand with
  | nil=>
   have:=hz1 rfl
   simp at this
   subst this
   exact hce
  | cons a r=>
   have:=hz2 a r rfl
   subst this
   exact ⟨hce,hch.pres (.grow gr)⟩
theorem AOk.mark {h:Heap} {a:Addr} (x:AOk B A n H h) (hh:HandOk (some (.ref a)) h):AOk B (A.mark (some (.ref a))) n H h:=
 ⟨x.depth,x.units,x.frames,x.guards,hh⟩
theorem FSt.mark {a:Addr} (x:FSt B env A):FSt B env (A.mark (some (.ref a))):=⟨x.frames,x.frame,x.loc0,x.cells0⟩
noncomputable def hdSt:Hd->List St
 | .mk _ _ b=>b
theorem no_exc {s':Shared} {e:Value} {P:Prop} (x:SExc B env vs H s (fun _ _ _=>False) e s'):P:=by
 obtain ⟨_,_,_,_,_,_,_,_,q⟩:=x;exact q.elim
theorem handle_sound (hB:BOk prog w B T) (hX:XOk B T) {k:Nat} {a:Addr} {n0:Nat} {Q:Fl->Loc->Hp->Prop} (fs:FSt B env A) (hn0:∀b,@LE.le Nat _ n0 b->B.base.get? b=none):∀{hs:List Hd} {xs:List ExceptHandler},(∀x∈hs,SndSs prog w B T n (hdSt x))->chkHs T env.scope.names vs hs xs=true ->
  ∀{H:Hp} {s:Shared} {loc:Loc},Conc B env vs loc H s->AOk B A n H s.heap->ExcOk B n0 a k s.heap->vHs B.ns (CallS prog w B n) hs k loc H Q ->
  wpAny (model prog w) A (handleBy (.ref a) env xs) (fun f s'=>∃fl loc' H',FlOk B s'.heap fl f/\Conc B env vs loc' H' s'/\(∀H0 s0,n0=s0.heap.objs.size->KeepS env H0 s0 H s->KeepS env H0 s0 H' s')/\Q fl loc' H') E s
 | [],_,_,_,H,s,loc,_,_,_,h=>h.elim
 | .mk k' v b::hs,xs,hsn,hc,H,s,loc,c,aok,x,h=>by
  refine invHs_cons hc fun y py name b0 body pos xs h1 h2 h3 h4 h5 h6 h8=>?_
  have x':=x
  obtain ⟨x1,o,us,C,x2,x3,x4,x5,x6,x7,x8⟩:=x
  have aM:=aok.mark x8
  have fM:FSt B env (A.mark (some (.ref a))):=fs.mark
  obtain ⟨C0,hC0⟩:=hX.own y k' h1 h2
  obtain ⟨C2,N2,nm2,q2,bs2,bm2,hdct2,sn2,sub2,ab2,col2,dd2,l0,l1,l2,l3,l5,mN2,e2,hC2,hN2,hni2,hT2,hsub2⟩:=hX.at_ k' C0 hC0
  obtain ⟨C1,N,nm,q,bs,bm,hdct,sn,sub,ab,col,dd,k0,k1,k2,k3,k5,mN,e1,hC,hN,hni,hT,hsub⟩:=hX.at_ k C x4
  rw [x4] at e1;cases e1
  have hlook:=(hB.cls y k' h1).1
  rw [e2] at hlook
  refine wpAny_handleBy_cons (codeAny_handlers_test (load_glob hB h3 h4 c hlook ?_)) (by intro q;cases q)
  obtain ⟨hp,g,d,tk,os⟩:=s
  refine matches_cls (b:=subc k k') (c.base _ _ hC) x2 x3 (c.base _ _ hC2) (OwnTail.base_exc hT2) (hsub k' C2 e2) ?_
  cases hb:subc k k' with
  | false=>
   rw [vHs_cons,hb] at h
   simp only [Bool.false_eq_true,if_false] at h ⊢
   exact handle_sound hB hX fs hn0 (fun x hx=>hsn x (List.mem_cons_of_mem _ hx)) h8 c aok x' h
  | true=>
   rw [vHs_cons,hb] at h
   simp only [if_true] at h ⊢
   cases v with
   | none=>
    cases name with
    | some _=>simp [vOk] at h5
    | none=>
    refine codeAny_handlers_suite (flight_sound x' hn0 fun s1 K1 x1' _=>?_)
    have c1:=K1.conc c
    have a1:AOk B (A.mark (some (.ref a))) n H s1.heap:=aM.pres K1.imm K1.dict
    refine wpAny_mono (hsn _ (List.mem_cons_self) (b0::body) env vs loc H _ s1 h6 fM a1 c1 _ _ (h a)) (fun f s2 hp2=>?_) fun e s2 q=>no_exc q
    obtain ⟨fl,l2',H2,hf,c2,k2',q2'⟩:=hp2
    refine ⟨fl,l2',H2,hf,c2,fun H0 s0 hs0 KK=>?_,q2'⟩
    subst hs0
    exact (K1.keepS KK).trans k2'
   | some i=>
    cases name with
    | none=>simp [vOk] at h5
    | some z=>
    simp only [vOk,Bool.and_eq_true,beq_iff_eq] at h5
    refine codeAny_handlers_suite_as (flight_sound x' hn0 fun s1 K1 x1' _=>?_)
    have c1:=K1.conc c
    have a1:AOk B (A.mark (some (.ref a))) n H s1.heap:=aM.pres K1.imm K1.dict
    have rep:Rep B s1.heap (.exc a k) (.ref a):=by
     obtain ⟨_,o',us',C',y2,y3,y4,y5,_⟩:=x1'
     unfold Rep
     exact ⟨rfl,o',us',C',y2,y3,y4,y5⟩
    refine store_sound h5.1 rfl c1 rep fs.loc0 fs.cells0 fun s2 c2 k2'=>?_
    have a2:=a1.keepS (loc':=loc) c1 k2'
    refine wpAny_mono (hsn _ (List.mem_cons_self) (b0::body) env vs _ H _ s2 h6 fM a2 c2 _ _ (h a)) (fun f s3 hp3=>?_) fun e s3 q=>no_exc q
    obtain ⟨fl,l3',H3,hf,c3,k3',q3'⟩:=hp3
    obtain ⟨m3,hm3,_⟩:=c3.fr.ns
    refine wpAny_nameGoes h5.2 hm3 (by rw [c3.fr.kind];rfl) fun h' m' hn' hs'=>?_
    have hni:=c3.fr.own_not_imm
    have hE:=hs'.extBut
    have hniL:∀o,s3.heap.get? env.locals=some o->¬Imm o:=fun o e=>hni _ o (Or.inl rfl) e
    have hI:ImmK s3.heap h':=ImmK.but hE hniL
    have hCL:∀{y:Str} {b:Addr} {ov:Option Value},env.cells.lookup y=some b->s3.heap.IsCell b ov->h'.IsCell b ov:=fun {y b ov} hy hcell=>by
     obtain ⟨o'',g3,g4⟩:=hcell
     have hne:b≠env.locals:=fun q=>by
      subst q
      obtain ⟨o',es,ep,g1,g2,_⟩:=hm3
      rw [g1] at g3;cases g3;rw [g2] at g4;cases g4
     exact ⟨o'',hE b o'' hne g3,g4⟩
    have cF:Conc B env vs (l3'.map fun _=>none) H3 { s3 with heap:=h',toks:=s3.toks+1 }:=by
     refine ⟨⟨c3.fr.kind,c3.fr.glob,c3.fr.blt,⟨m',hn',fun y j d' _ h2 _=>?_⟩,fun y hy=>?_,fun y b hb'=>?_,c3.fr.noown,c3.fr.cinj⟩,c3.hp.but hE c3.fr.noown hniL,StaysIn.but c3.base hE fs.loc0⟩
     ·rw [List.getElem?_map] at h2
      obtain ⟨_,_,q⟩:=Option.map_eq_some_iff.mp h2
      cases q
     ·obtain ⟨cc,ov,f1,f2,f3,f4⟩:=c3.fr.cells y hy
      refine ⟨cc,ov,f1,hCL f1 f2,f3,fun j d' _ h2=>?_⟩
      rw [List.getElem?_map] at h2
      obtain ⟨_,_,q⟩:=Option.map_eq_some_iff.mp h2
      cases q
     ·obtain ⟨⟨ov,f2⟩,f3⟩:=c3.fr.cellsIn y b hb'
      exact ⟨⟨ov,hCL hb' f2⟩,f3⟩
    have kF:KeepS env H3 s3 H3 { s3 with heap:=h',toks:=s3.toks+1 }:=by
     refine ⟨⟨fun b o e hn hw=>⟨⟨o,hE b o (fun q=>by subst q;exact hw (Or.inl rfl)) e,.refl o⟩,hn⟩,Nat.le_of_eq hs'.1.symm,rfl,rfl⟩,fun b o es mm e hdd hn=>?_⟩
     by_cases qq:b=env.locals
     ·subst qq
      obtain ⟨o',es',ep',g1,g2,_⟩:=hn'
      exact ⟨o',es',ep',g1,g2,hn⟩
     ·exact ⟨o,es,mm,hE b o qq e,hdd,hn⟩
    refine ⟨fl,_,H3,?_,cF,fun H0 s0 hs0 KK=>?_,q3'⟩
    ·cases fl with
     | ret dd=>obtain ⟨v,rfl,r⟩:=hf;exact ⟨v,rfl,r.pres hI⟩
     | next=>exact hf
     | brk=>exact hf
     | cont=>exact hf
    ·subst hs0
     exact (((K1.keepS KK).trans k2').trans k3').trans kF
theorem snd_try {body:List St} {hs:List Hd} (hB:BOk prog w B T) (hX:XOk B T) (hb:SndSs prog w B T n body) (hh:∀x∈hs,SndSs prog w B T n (hdSt x)):SndS prog w B T n (.tryS body hs):=by
 intro st env vs loc H A s hc fs aok c Q X h
 refine invS_try hc fun b x0 r pos hc1 hc2=>?_
 ·
  refine wpAny_Try_except (wpAny_mono (hb b env vs loc H A s hc1 fs aok c _ _ h) (fun f s1 hp=>?_) fun e s1 hx=>?_)
  ·have hp':=hp
   obtain ⟨fl,l',H',hf,c',k',q'⟩:=hp
   cases fl with
   | next=>
    have:f=.next:=hf
    subst this
    exact wpAny_execs_nil hp'
   | brk=>
    have:f=.brk:=hf
    subst this
    exact hp'
   | cont=>
    have:f=.cont:=hf
    subst this
    exact hp'
   | ret d=>
    obtain ⟨v,rfl,r⟩:=hf
    exact hp'
  ·refine exc_note fs aok c hx fun s2 ht=>?_
   obtain ⟨k,l',H',a,rfl,x1,c1,k1,hx'⟩:=ht
   have hn0:∀b,@LE.le Nat _ s.heap.objs.size b->B.base.get? b=none:=fun b hb=>base_none_of_ge c.base hb
   refine flight_sound x1.1 hn0 fun s3 K3 x3 _=>?_
   have c3:=K3.conc c1
   have k3:=K3.keepS k1
   refine wpAny_mono (handle_sound hB hX fs hn0 hh hc2 c3 (aok.keepS (loc':=loc) c k3) x3 hx') (fun f s4 hp=>?_) fun _ _ q=>q
   obtain ⟨fl,l4,H4,hf,c4,k4,q4⟩:=hp
   exact ⟨fl,l4,H4,hf,c4,k4 H s rfl k3,q4⟩
mutual
theorem sndS (hB:BOk prog w B T) (hX:XOk B T):(x:St)->SndS prog w B T n x
 | .assign _ _=>snd_assign (snd hB)
 | .assignT _ _=>snd_assignT (snd hB)
 | .setItem _ _ _=>snd_setItem (snd hB)
 | .setTold _ _=>snd_setTold hB (snd hB)
 | .expr _=>snd_expr (snd hB)
 | .ret _=>snd_ret (snd hB)
 | .ite _ a b=>snd_ite (snd hB) (sndSs hB hX a) (sndSs hB hX b)
 | .forS _ _ b=>snd_for (snd hB) (sndSs hB hX b)
 | .whileS _ b=>snd_while (snd hB) (sndSs hB hX b)
 | .brk=>snd_brk
 | .cont=>snd_cont
 | .raise _=>snd_raise hB hX
 | .tryS b hs=>snd_try hB hX (sndSs hB hX b) (sndHs hB hX hs)
theorem sndSs (hB:BOk prog w B T) (hX:XOk B T):(x:List St)->SndSs prog w B T n x
 | []=>snd_nil
 | x::r=>snd_cons (sndS hB hX x) (sndSs hB hX r)
theorem sndHs (hB:BOk prog w B T) (hX:XOk B T):(l:List Hd)->(∀x∈l,SndSs prog w B T n (hdSt x))
 | []=>fun _ h=>nomatch h
 | .mk k v b::l=>List.forall_mem_cons.mpr ⟨sndSs hB hX b,sndHs hB hX l⟩
end
end
end Mine
set_option Elab.async false
set_option maxRecDepth 100000
namespace Mine
open PySem PySem.Spec PySem.Calls PyProof.Rows PySem.W Builtin Builtin.ObjectAttr Builtin.Getset_descriptor
noncomputable def excQ (K:Frag) (C:Addr):Bool:=
 (findIn K (.ref C) "__getattribute__" == some (some (.builtin "BaseException.__getattribute__")))&&(findIn K (.ref C) "__getattr__" == some none)&&(findIn K (.ref C) "__class__" == some (some (.builtin "object.__class__"))) &&
  (PySem.W.mroIn K C (.type "object")==some true)&&(PySem.W.mroIn K C (.type "BaseException")==some true)&&(clsIn K C).isSome
section
variable {prog:Program} {w:World} {A:Around} {E:Value->Shared->Prop} {h:Heap} {g:Array GenState} {d:Drawn} {t:Nat} {os:OsState} {a:Addr} {o:Obj} {C:Addr} {K:Frag}
theorem looks_ty (hx:h.get? a=some o) (hc:o.cls=.ref C) {M:Model}:Looks M h (typeOf (.ref a)) (.ref C):=hc ▸ (Looks.ld hx).andThen .now
theorem exc_get {R:Result->Shared->Prop} (X:K.In h) (hm:PySem.W.mroIn K C (.type "object")=some true) (hx:h.get? a=some o) (hc:o.cls=.ref C) (hq:R (.ok (.ret (.ref C))) ⟨h,g,d,t,os⟩) :
  codeAny (model prog w) A (.call (.builtin "getset_descriptor.__get__") ⟨[.builtin "object.__class__",.ref a,.ref C],[]⟩) R ⟨h,g,d,t,os⟩:=by
 have L0:=looks_ty (M:=model prog w) hx hc
 have L1:=looks_mroIn (M:=model prog w) X hm
 refine codeAny_call_builtin KF.slot_gs.plain KF.entry_gs (KF.slot_gs.check _ _ _ _ _ _ _ _ KF.type_class (KF.args_gs _ _ _) ?_)
 unfold Builtin.«getset_descriptor.__get__» descrGet
 rw [dga_obj]
 refine wpAny_bind (wpAny_pure ?_)
 unfold descrGetter descrCheckInstance descrNameAndClass isInstance
 simp only [KF.owner_class]
 repeat lk
 refine ⟨Code.quiet_builtin _ (by decide+kernel),codeAny_builtin KF.entry_class ?_⟩
 unfold Builtin.«object.__class__» shownTypeOf
 repeat lk
 exact hq
theorem exc_check {M:Model} {nameV:Value} {Q:Unit->Shared->Prop} (X:K.In h) (hm:PySem.W.mroIn K C (.type "BaseException")=some true) (hx:h.get? a=some o) (hc:o.cls=.ref C) (hq:Q () ⟨h,g,d,t,os⟩) :
  wpAny M A (checkBuiltinCall "BaseException.__getattribute__" ⟨[.ref a,nameV],[]⟩) Q E ⟨h,g,d,t,os⟩:=by
 have hk:builtinKind "BaseException.__getattribute__" = some .slot:=by decide+kernel
 have hsplit:splitId "BaseException.__getattribute__" = some ("BaseException", "__getattribute__"):=by decide+kernel
 have ha:=F.args_bexc_ga (.ref a) nameV
 have L0:=looks_ty (M:=M) hx hc
 have L1:=looks_mroIn (M:=M) X hm
 simp only [checkBuiltinCall,hk,hsplit]
 refine wpAny_bind ?_
 ·unfold isInstance
  repeat (first | with_reducible refine L0.at ?_ | with_reducible refine L1.at ?_ | wp_step)
  exact hq
theorem exc_entry {tk:Tok} {Q:Fin->Shared->Prop} (X:K.In h) (hn:findIn K (.ref C) "__class__" = some (some (.builtin "object.__class__"))) (hm:PySem.W.mroIn K C (.type "object")=some true) (hx:h.get? a=some o) (hc:o.cls=.ref C)
  (hq:Q (.done (.ret (.ref C))) ⟨h,g,d,t,os⟩):wpAny (model prog w) A (Builtin.«object.__getattribute__» ⟨[.ref a,.str "__class__" tk],[]⟩) Q E ⟨h,g,d,t,os⟩:=by
 have f5:=F.typeOf_object_class
 have f6:=F.slot_gs_get.lookup
 have f7:=F.slot_gs_set.lookup
 have L0:=looks_ty (M:=model prog w) hx hc
 have L1:=looks_findIn (M:=model prog w) X hn
 repeat (any_goals (first | assumption | with_reducible refine L0.at ?_ | with_reducible refine L1.at ?_ | wp_step))
 refine exc_get X hm hx hc ?_
 repeat (any_goals (first | assumption | wp_step))
theorem exc_by {tk:Tok} {fill:Bool} {Q:Value->Shared->Prop} (X:K.In h) (hQ:excQ K C=true) (hx:h.get? a=some o) (hc:o.cls=.ref C) (hq:Q (.ref C) ⟨h,g,d,t,os⟩) :
  wpAny (model prog w) A (getAttrBy (.ref a) (.str "__class__" tk) fill false) Q E ⟨h,g,d,t,os⟩:=by
 unfold excQ at hQ
 simp only [Bool.and_eq_true,beq_iff_eq] at hQ
 obtain ⟨⟨⟨⟨⟨q1,q2⟩,q3⟩,q4⟩,q5⟩,q6⟩:=hQ
 have f3:=F.excAttr_ValueError.ga.bind (.ref a)
 have hx2:(Value.builtin "BaseException.__getattribute__" == Value.builtin "object.__getattribute__")=false:=by decide+kernel
 have hx1:(onTheHeap (Value.ref C)&&Value.builtin "BaseException.__getattribute__" == Value.builtin "object.__getattribute__")=false:=by rw [hx2];rfl
 have L0:=looks_ty (M:=model prog w) hx hc
 have L1:=looks_findIn (M:=model prog w) X q1
 have L2:=looks_findIn (M:=model prog w) X q2
 repeat (any_goals (first | assumption | with_reducible refine L0.at ?_ | with_reducible refine L1.at ?_ | with_reducible refine L2.at ?_ | wp_step))
 refine codeAny_call_builtin F.excAttr_ValueError.ga.plain F.entry_bexc_ga (exc_check X q5 hx hc (exc_entry X q3 q4 hx hc ?_))
 repeat (any_goals (first | assumption | wp_step))
theorem exc_class {s:Shared} {Q:Option Value->Shared->Prop} (X:K.In s.heap) (hQ:excQ K C=true) (hx:s.heap.get? a=some o) (hc:o.cls=.ref C) (hq:Q (some (.ref C)) { s with toks:=s.toks+1 }) :
  wpAny (model prog w) A (getAttr? (.ref a) "__class__") Q E s:=by
 obtain ⟨h,g,d,t,os⟩:=s
 unfold getAttr? getAttrBy?
 refine wpAny_bind (wpAny_mkText (wpAny_bind (wpAny_attempt (exc_by X hQ hx hc ?_))))
 exact wpAny_pure hq
theorem kitx_exc (hQ:excQ K C=true):KitX K (.ref a) (.ref C) (fun h=>∃o,h.get? a=some o/\o.cls=.ref C) where
 ty:=fun M h _ p=>p.elim fun _ q=>looks_ty q.1 q.2
 it:=fun M h X _=>by
  unfold excQ at hQ
  simp only [Bool.and_eq_true] at hQ
  have z0:=hQ.2
  unfold clsIn at z0
  split at z0
  ·rename_i c' d' cd' sl' ho
   intro A' Q' E' s' k q
   unfold isType loadHead
   exact wpAny_bind (wpAny_loadPart (k _ _ (X _ _ ho)) (wpAny_pure q))
  ·cases z0
 ne:=fun h tp dd its n sl X e=>by
  unfold excQ at hQ
  simp only [Bool.and_eq_true] at hQ
  have z0:=hQ.2
  unfold clsIn at z0
  split at z0
  ·rename_i c' d' cd' sl' ho
   refine Bool.eq_false_iff.mpr fun q=>?_
   cases beq_iff_eq.mp q
   have:=X _ _ ho
   rw [e] at this
   cases this
  ·cases z0
 ca:=fun X p k=>p.elim fun _ q=>exc_class X hQ q.1 q.2 k
theorem isi_exc {s:Shared} {c:Value} {b:Bool} {Q:Value->Shared->Prop} (X:K.In s.heap) (hQ:excQ K C=true) (e:kitOne K (.ref C) c=some b) (hx:s.heap.get? a=some o) (hc:o.cls=.ref C) (hq:∀tk,Q (.bool b) { s with toks:=tk }) :
  wpAny (model prog w) A (call (.builtin "isinstance") [.ref a,c]) Q E s:=
 kia_one (kitx_exc hQ) X ⟨o,hx,hc⟩ e (by intro q;cases q) hq
end
end Mine
set_option Elab.async false
set_option maxRecDepth 100000
namespace Mine
open PySem PyProof.Rows PySem.W
noncomputable def onSeq (x:Data) (k:Array Value->Nat->Bool):Bool:=if h:x.ctorIdx=2 then Data.seq.elim (motive:=fun _=>Bool) x h k else false
@[elab_as_elim] theorem iSeq {P:Data->Prop} {x:Data} {k:Array Value->Nat->Bool} (h:onSeq x k=true) (c:∀a b,k a b=true->P (.seq a b)):P x:=
 on_split h fun q h=>Data.seq.elim (motive:=fun x=>∀q,Data.seq.elim (motive:=fun _=>Bool) x q k=true->P x) x q (fun a b _ h=>c a b h) q h
noncomputable def onClsD (x:Data) (k:ClassData->Bool):Bool:=if h:x.ctorIdx=8 then Data.cls.elim (motive:=fun _=>Bool) x h k else false
@[elab_as_elim] theorem iClsD {P:Data->Prop} {x:Data} {k:ClassData->Bool} (h:onClsD x k=true) (c:∀a,k a=true->P (.cls a)):P x:=
 on_split h fun q h=>Data.cls.elim (motive:=fun x=>∀q,Data.cls.elim (motive:=fun _=>Bool) x q k=true->P x) x q (fun a _ h=>c a h) q h
noncomputable def onCons {α:Type} (l:List α) (k:α->List α->Bool):Bool:=match l with | []=>false | x::r=>k x r
@[elab_as_elim] theorem iCons {α:Type} {P:List α->Prop} {l:List α} {k:α->List α->Bool} (h:onCons l k=true) (c:∀x r,k x r=true->P (x::r)):P l:=by
 cases l <;> first | exact c _ _ h | exact absurd h Bool.false_ne_true
noncomputable def repA (d:D) (v:Value):Bool:=match d with
 | .int i=>(match v with | .int j _=>i==j | _=>false)
 | .str l=>(match v with | .str x _=>x.cps.toList==l&&decide (l.length<=SZ)&&l.all fun c=>decide (c < 128) | _=>false)
 | _=>false
noncomputable def tupIn (K:Frag) (l:List D) (v:Value):Bool:=match v with
 | .ref a=>onSome (K.lookup a) fun o=>(o.cls==.type "tuple")&&onNone o.dict&&o.slots.isEmpty&&onSeq o.data fun vs _=>decide (vs.size<=SZ)&&(l.length==vs.size)&&(l.zip vs.toList).all fun p=>repA p.1 p.2
 | _=>false
noncomputable def repIn (K:Frag) (d:D) (v:Value):Bool:=repA d v||(match d with | .tup l=>tupIn K l v | _=>false)
theorem repL_zip {B:Bs} {h:Heap} {P:D×Value->Bool} (hp:∀p,P p=true->Rep B h p.1 p.2):∀{l:List D} {us:List Value},l.length=us.length->(l.zip us).all P=true->RepL B h l us
 | [],[],_,_=>.nil
 | [],_::_,hl,_=>by simp at hl
 | _::_,[],hl,_=>by simp at hl
 | d::l,v::us,hl,h=>by
  rw [List.zip_cons_cons,List.all_cons,Bool.and_eq_true] at h
  exact .cons (hp _ h.1) (repL_zip hp (by simpa using hl) h.2)
theorem repA_rep {B:Bs} {h:Heap} {d:D} {v:Value} (e:repA d v=true):Rep B h d v:=by
 cases d <;> try exact absurd e Bool.false_ne_true
 ·cases v <;> try exact absurd e Bool.false_ne_true
  unfold Rep;rw [eq_of_beq e];exact ⟨_,rfl⟩
 ·cases v <;> try exact absurd e Bool.false_ne_true
  refine and3 e fun h1 h2 h3=>?_
  have h1:=eq_of_beq h1
  subst h1
  unfold Rep
  exact ⟨of_decide_eq_true h2,fun c hc=>of_decide_eq_true (List.all_eq_true.mp h3 c hc),_,rfl⟩
theorem repIn_rep {K:Frag} {B:Bs} {h:Heap} (X:K.In h) {d:D} {v:Value} (e:repIn K d v=true):Rep B h d v:=by
 rcases Bool.or_eq_true_iff.mp e with e | e
 ·exact repA_rep e
 ·cases d with
  | tup l=>
   cases v with
   | ref a=>
    replace e:tupIn K l (.ref a)=true:=e
    unfold tupIn at e
    dsimp only at e
    generalize ho:K.lookup a=oo at e
    cases oo with
    | none=>exact absurd e Bool.false_ne_true
    | some o=>
     obtain ⟨c,dd,x,sl⟩:=o
     refine and4 e fun h1 h2 h3 h4=>?_
     have hc:c=.type "tuple" := eq_of_beq h1
     have hs:sl=#[]:=Array.isEmpty_iff.mp h3
     subst hc
     subst hs
     refine iNone (o:=dd) (P:=fun dd=>K.lookup a=some ⟨_,dd,x,#[]⟩->Rep B h (.tup l) (.ref a)) h2 (fun ho=>?_) ho
     refine iSeq (x:=x) (P:=fun x=>K.lookup a=some ⟨_,none,x,#[]⟩->Rep B h (.tup l) (.ref a)) h4 (fun us k q ho=>?_) ho
     refine and3 q fun q1 q2 q3=>?_
     unfold Rep
     exact ⟨_,us,k,rfl,X _ _ ho,of_decide_eq_true q1,repL_zip (fun p hp=>repA_rep hp) ((eq_of_beq q2).trans Array.length_toList.symm) q3⟩
   | _=>exact absurd e Bool.false_ne_true
  | _=>exact absurd e Bool.false_ne_true
noncomputable def constsIn (K:Frag) (l:List (Str×D)):Bool:=l.all fun p=>match nsIn K mainGlobals p.1 with
 | some (some v)=>repIn K p.2 v
 | _=>false
noncomputable def bcls:List (Nat×String):=[(10, "str"),(11, "int"),(12, "bool"),(13, "tuple"),(14, "list"),(15, "ValueError")]
noncomputable def clsvOf (cl:List (Nat×Addr)) (k:Nat):Value:=match bcls.lookup k with
 | some t=>.type t
 | none=>match cl.lookup k with
  | some C=>.ref C
  | none=>.type "object"
noncomputable def clssIn (K:Frag) (cl:List (Nat×Addr)) (l:List (Str×Nat)):Bool:=l.all fun p=>match bcls.lookup p.2 with
 | some t=>p.1==Str.ofString t&&nsIn K mainGlobals p.1==some none
 | none=>match cl.lookup p.2 with
  | some C=>nsIn K mainGlobals p.1==some (some (.ref C))
  | none=>false
noncomputable def mroOfD (x:Data):List Value:=match x with | .cls cd=>cd.mro | _=>[]
noncomputable def mroIn (K:Frag) (C:Addr):List Value:=match K.lookup C with
 | some o=>mroOfD o.data
 | none=>[]
noncomputable def on6 {α:Type} (l:List α) (k:α->α->α->α->α->α->Bool):Bool:=onCons l fun a l=>onCons l fun b l=>onCons l fun c l=>onCons l fun d l=>on2 l fun e f=>k a b c d e f
@[elab_as_elim] theorem i6 {α:Type} {P:List α->Prop} {l:List α} {k:α->α->α->α->α->α->Bool} (h:on6 l k=true) (c:∀a b c d e f,k a b c d e f=true->P [a,b,c,d,e,f]):P l:=
 iCons h fun _ _ h=>iCons h fun _ _ h=>iCons h fun _ _ h=>iCons h fun _ _ h=>i2 h fun _ _ h=>c _ _ _ _ _ _ h
noncomputable def excOwn (K:Frag) (C:Addr):Bool:=match K.lookup C with
 | some o=>(o.cls==.type "type")&&onClsD o.data fun cd=>(onCons cd.mro fun v bm=>(v==.ref C)&&tailIn K veMro bm)&&!cd.hasDel&&nsOkIn K cd.ns&&(nsIn K cd.ns "__init__" == some none)&&on6 o.slots.toList fun _ _ _ _ x _=>x==some (.builtin "ValueError.__new__")
 | none=>false
noncomputable def excsIn (K:Frag) (cl:List (Nat×Addr)):Bool:=cl.all fun p=>decide (p.1<=6)&&excOwn K p.2&&cl.all fun r=>(mroIn K p.2).contains (.ref r.2)==subc p.1 r.1
noncomputable def excX (K:Frag) (cl:List (Nat×Addr)):Bool:=cl.all fun p=>excQ K p.2&&(kitOne K (.ref p.2) (.type "ValueError")==some true)&&cl.all fun r=>kitOne K (.ref p.2) (.ref r.2)==some (r.1==0||r.1==p.1||r.1==15)
noncomputable def bltNames:List String:=["len", "isinstance", "range", "min", "max", "int", "str", "list", "zip"]
noncomputable def bltIn (K:Frag):Bool:=bltNames.all fun x=>nsIn K mainGlobals (Str.ofString x)==some none
noncomputable def fnsIn (q:Program) (T:Tab) (defs:List Def):Bool:=(T.fns.length+T.meths.length==defs.length)&&(T.fns.zip defs).all fun p=>(decide (p.2.np<=p.2.vs.length))&&(recsOf q).any fun d=>d.name==p.1&&chkDef T p.2 d
noncomputable def faOf (T:Tab) (mg mr:Str->Option Value) (i:Nat):Addr:=match T.fns[i]? with
 | some x=>match mg x with
  | some (.ref a)=>a
  | _=>0
 | none=>match T.meths[i - T.fns.length]? with
  | some p=>match mr p.1 with
   | some (.ref a)=>a
   | _=>0
  | none=>0
noncomputable def mkB (h:Heap) (scr:Addr) (ns:List Int) (T:Tab) (cl:List (Nat×Addr)) (mg mb mr:Str->Option Value):Bs:=
 { base:=h,scr:=scr,ns:=ns,clsv:=clsvOf cl,rdr:=(match T.meths with | []=>.none | _::_=>(mg T.rname).getD .none),fa:=faOf T mg mr,mg:=mg,mb:=mb }
theorem boot_cls:∀t∈bcls,bootBuiltins (Str.ofString t.2)=some (.type t.2):=by
 intro t ht
 simp only [bcls,List.mem_cons,List.not_mem_nil,or_false] at ht
 rcases ht with rfl | rfl | rfl | rfl | rfl | rfl <;> kernel_rfl
theorem boot_blt:∀p∈bltOf,bootBuiltins (Str.ofString p.1)=some p.2:=by
 intro t ht
 simp only [bltOf,List.mem_cons,List.not_mem_nil,or_false] at ht
 rcases ht with rfl | rfl | rfl | rfl | rfl | rfl | rfl | rfl | rfl <;> kernel_rfl
theorem blt_name:∀p∈bltOf,p.1∈bltNames/\Str.ofString p.1≠Str.ofString "__name__" := by
 intro t ht
 simp only [bltOf,List.mem_cons,List.not_mem_nil,or_false] at ht
 rcases ht with rfl | rfl | rfl | rfl | rfl | rfl | rfl | rfl | rfl <;> exact ⟨by decide,by decide+kernel⟩
theorem cls_name:∀p∈bcls,Str.ofString p.2≠Str.ofString "__name__" := by
 intro t ht
 simp only [bcls,List.mem_cons,List.not_mem_nil,or_false] at ht
 rcases ht with rfl | rfl | rfl | rfl | rfl | rfl <;> decide+kernel
theorem lookup_mem {α β:Type} [BEq α] [LawfulBEq α]:∀{l:List (α×β)} {x:α} {k:β},l.lookup x=some k->(x,k)∈l
 | (y,v)::r,x,k,h=>by
  rw [List.lookup_cons] at h
  split at h
  ·rename_i hb;cases h;rw [eq_of_beq hb];simp
  ·exact List.mem_cons_of_mem _ (lookup_mem h)
theorem ix_lt {l:List Str} {x:Str} {i:Nat} (h:ix l x=some i):l[i]?=some x:=ix_get h
section
variable {prog q:Program} {w:World} {loose:List Str} {mean:ExcName->Option Value} {mg mb mr:Str->Option Value} {h:Heap} {K:Frag} {T:Tab} {cl:List (Nat×Addr)} {scr:Addr} {ns:List Int} {defs:List Def}
theorem fns_at (hf:fnsIn q T defs=true) {i:Nat} {x:Str} (hx:T.fns[i]?=some x):∃df d,defs[i]?=some df/\d∈recsOf q/\d.name=x/\chkDef T df d=true/\df.np<=df.vs.length:=by
 simp only [fnsIn,Bool.and_eq_true,beq_iff_eq,List.all_eq_true] at hf
 obtain ⟨h1,h2⟩:=hf
 have hi:i < T.fns.length:=(List.getElem?_eq_some_iff.mp hx).1
 have hdi:defs[i]?=some (defs[i]'(by exact jk30 h1 hi)):=List.getElem?_eq_getElem (by exact jk30 h1 hi)
 have hm:(x,defs[i]'(by exact jk30 h1 hi))∈T.fns.zip defs:=by
  refine List.mem_iff_getElem?.mpr ⟨i,?_⟩
  rw [List.getElem?_zip_eq_some]
  exact ⟨hx,hdi⟩
 have:=h2 _ hm
 simp only [Bool.and_eq_true,decide_eq_true_eq,List.any_eq_true,beq_iff_eq] at this
 obtain ⟨h3,d,h4,h5,h6⟩:=this
 exact ⟨_,d,hdi,h4,h5,h6,h3⟩
theorem fn_at (T0:Top q loose mean mg mb h) (hf:fnsIn q T defs=true) {i:Nat} {x:Str} (hx:T.fns[i]?=some x) :
  ∃df d,defs[i]?=some df/\chkDef T df d=true/\df.np<=df.vs.length/\mg x=some (.ref (faOf T mg mr i))/\FnAt (mkB h scr ns T cl mg mb mr) i d:=by
 obtain ⟨df,d,h1,h2,h3,h4,h5⟩:=fns_at hf hx
 obtain ⟨a,o,pm,code,doc,g1,g2,g3,g4⟩:=T0.fn d h2
 rw [h3] at g1
 have ea:faOf T mg mr i=a:=by unfold faOf;rw [hx];simp only [g1]
 refine ⟨df,d,h1,h4,h5,by rw [ea];exact g1,o,pm,code,doc,d.name,?_,g3,g4⟩
 show h.get? (faOf T mg mr i)=some o
 rw [ea];exact g2
theorem lookup_of_not {k:Nat} {l:List (Nat×Addr)} {C:Addr} (hc:clsvOf l k=.ref C):l.lookup k=some C:=by
 unfold clsvOf at hc
 split at hc
 ·cases hc
 ·split at hc
  ·rename_i C' h';cases hc;exact h'
  ·cases hc
theorem isx_of {A:Around} {E:Value->Shared->Prop} {Q:Value->Shared->Prop} {s:Shared} {a:Addr} {o:Obj} {k c:Nat} {C:Addr} (X:K.In h) (hxx:excX K cl=true) (hb:h.StaysIn s.heap) (hx:s.heap.get? a=some o) (hc:o.cls=.ref C)
  (hk:clsvOf cl k=.ref C) (hcc:(∃C',clsvOf cl c=.ref C')\/c=15) (hq:∀tk,Q (.bool (c==0||c==k||c==15)) { s with toks:=tk }):wpAny (model prog w) A (call (.builtin "isinstance") [.ref a,clsvOf cl c]) Q E s:=by
 have X':K.In s.heap:=Frag.In.keeps X hb
 have h1:=List.all_eq_true.mp hxx _ (lookup_mem (lookup_of_not hk))
 simp only [Bool.and_eq_true,beq_iff_eq] at h1
 obtain ⟨⟨h1,h2⟩,h3⟩:=h1
 rcases hcc with ⟨C',hC'⟩ | rfl
 ·have h4:=List.all_eq_true.mp h3 _ (lookup_mem (lookup_of_not hC'))
  simp only [beq_iff_eq] at h4
  rw [hC']
  exact isi_exc X' h1 h4 hx hc hq
 ·have e:((15:Nat)==0||15==k||15==15)=true:=by simp
  rw [e] at hq
  exact isi_exc X' h1 (c:=.type "ValueError") h2 hx hc hq
theorem bok_of (T0:Top q loose mean mg mb h) (X:K.In h) (hc:constsIn K T.consts=true) (hcl:clssIn K cl T.clss=true) (hb:bltIn K=true) (hf:fnsIn q T defs=true) (hxx:excX K cl=true)
  (hdict:∀x t,T.dicts.lookup x=some t->∃a m,mg x=some (.ref a)/\h.MapOf (strKind prog w) a m/\(a==sysModules)=false/\∀k:List Nat,(match tabGet t k with | some i=>∃tk,m ⟨k.toArray⟩=some (.int i tk) | none=>m ⟨k.toArray⟩=none))
  (hrd:(∃C,(match T.meths with | []=>Value.none | _::_=>(mg T.rname).getD .none)=.ref C)->RdAt (mkB h scr ns T cl mg mb mr) T) (hrd':T.meths≠[]->RdAt (mkB h scr ns T cl mg mb mr) T)
  (hscr:∃vs n,IsL h scr vs n/\IntsAre vs.toList ns/\ns.length<=63):BOk prog w (mkB h scr ns T cl mg mb mr) T where
 rd:=fun q=>q.elim hrd' hrd
 ty10:=rfl
 ty11:=rfl
 ty12:=rfl
 ty13:=rfl
 ty14:=rfl
 ty15:=rfl
 tyne:=fun c=>by
  show clsvOf cl c≠.none
  unfold clsvOf
  split
  ·intro q;cases q
  ·split <;> intro q <;> cases q
 g:=T0.g
 b:=T0.b
 nolimit:=T0.nolimit
 const:=fun x d hx=>by
  have:=List.all_eq_true.mp hc _ (lookup_mem hx)
  simp only at this
  split at this
  ·rename_i v hv
   exact ⟨v,mg_of X T0.g hv,repIn_rep X this⟩
  ·cases this
 cls:=fun x k hx=>by
  have:=List.all_eq_true.mp hcl _ (lookup_mem hx)
  show GlobV (mkB h scr ns T cl mg mb mr) x (clsvOf cl k)/\(k<=6->∃C,clsvOf cl k=.ref C)
  unfold clsvOf
  simp only at this
  split at this
  ·rename_i t ht
   have ht':bcls.lookup k=some t:=ht
   simp only [Bool.and_eq_true,beq_iff_eq] at this
   obtain ⟨h1,h2⟩:=this
   have hm:=lookup_mem ht
   refine ⟨Or.inr ⟨mg_none_of X T0.g h2,?_⟩,fun z=>?_⟩
   ·show mb x=_
    rw [h1,T0.builtins _ (cls_name _ hm)]
    exact boot_cls _ hm
   ·simp only [bcls,List.mem_cons,Prod.mk.injEq,List.not_mem_nil,or_false] at hm
    omega
  ·rename_i ht
   split at this
   ·rename_i C hC
    exact ⟨Or.inl (mg_of X T0.g (beq_iff_eq.mp this)),fun _=>⟨C,rfl⟩⟩
   ·cases this
 isx:=fun {A E Q s a o k c C} hb hx hc hk hcc hq=>isx_of X hxx hb hx hc hk hcc hq
 fn:=fun x i hx=>by
  obtain ⟨df,d,_,_,_,h1,o,pm,cd,doc,_,h2,h3,_⟩:=fn_at (mr:=mr) (scr:=scr) (ns:=ns) (cl:=cl) T0 hf (ix_lt hx)
  exact ⟨h1,o,_,h2,h3⟩
 blt:=fun x v hx=>by
  have hn:=blt_name _ hx
  have:=List.all_eq_true.mp hb _ hn.1
  simp only [beq_iff_eq] at this
  refine Or.inr ⟨mg_none_of X T0.g this,?_⟩
  show mb _=_
  rw [T0.builtins _ hn.2]
  exact boot_blt _ hx
 dict:=hdict
 scr:=by
  obtain ⟨us,n,h1,h2,h3⟩:=hscr
  refine ⟨us,n,h1,?_,h3⟩
  have:∀{us:List Value} {ns':List Int},IntsAre us ns'->RepL (mkB h scr ns T cl mg mb mr) h (ns'.map D.int) us:=by
   intro us ns' hi
   induction hi with
   | nil=>exact .nil
   | cons n t _ ih=>
    refine .cons ?_ ih
    simp only [Rep];exact ⟨t,rfl⟩
  exact this h2
theorem xok_of (X:K.In h) (hcl:clssIn K cl T.clss=true) (hex:excsIn K cl=true):XOk (mkB h scr ns T cl mg mb mr) T where
 at_:=fun k C hk=>by
  have hl:=lookup_of_not (show clsvOf cl k=.ref C from hk)
  have:=List.all_eq_true.mp hex _ (lookup_mem hl)
  simp only [Bool.and_eq_true,decide_eq_true_eq] at this
  obtain ⟨⟨_,q⟩,hm⟩:=this
  have hm':∀c C',clsvOf cl c=.ref C'->(mroIn K C).contains (.ref C')=subc k c:=fun c C' hc=>by
   have:=List.all_eq_true.mp hm _ (lookup_mem (lookup_of_not hc))
   simpa only [beq_iff_eq] using this
  have emro:∀o,K.lookup C=some o->mroIn K C=mroOfD o.data:=fun o ho=>by unfold mroIn;rw [ho]
  unfold excOwn at q
  generalize ho:K.lookup C=oo at q emro
  cases oo with
  | none=>exact absurd q Bool.false_ne_true
  | some o=>
   obtain ⟨c,dd,x,sl⟩:=o
   obtain ⟨sl⟩:=sl
   refine and2 q fun h1 q=>?_
   have h1:c=.type "type" := eq_of_beq h1
   subst h1
   refine iClsD (x:=x) (P:=fun x=>K.lookup C=some ⟨_,dd,x,⟨sl⟩⟩->(∀o,some (Obj.mk _ dd x ⟨sl⟩)=some o->mroIn K C=mroOfD o.data)->ClsAt (mkB h scr ns T cl mg mb mr) k) q (fun cd q ho emro=>?_) ho emro
   refine and5 q fun h2 h3 h4 h5 h6=>?_
   obtain ⟨nm,bs,mro,nsA,qn,hd,sn,sub,ab,col,del⟩:=cd
   have h3:del=false:=by simpa using h3
   subst h3
   refine iCons (l:=mro) (P:=fun mro=>K.lookup C=some ⟨_,dd,.cls ⟨nm,bs,mro,nsA,qn,hd,sn,sub,ab,col,false⟩,⟨sl⟩⟩->mroIn K C=mro->ClsAt (mkB h scr ns T cl mg mb mr) k) h2 (fun v bm h2 ho emro=>?_) ho (emro _ rfl)
   refine and2 h2 fun h2 ht=>?_
   have h2:=eq_of_beq h2
   subst h2
   refine i6 (l:=sl) (P:=fun sl=>K.lookup C=some ⟨_,dd,.cls ⟨nm,bs,.ref C::bm,nsA,qn,hd,sn,sub,ab,col,false⟩,⟨sl⟩⟩->ClsAt (mkB h scr ns T cl mg mb mr) k) h6 (fun k0 k1 k2 k3 k4 k5 h6 ho=>?_) ho
   have h6:=eq_of_beq h6
   subst h6
   exact ⟨C,nsA,nm,qn,bs,bm,hd,sn,sub,ab,col,dd,k0,k1,k2,k3,k5,_,hk,X _ _ ho,.of_isNs (isNs_of_in X h4),nsMap_none_of_in X h4 (eq_of_beq h5),tail_of_in X ht,fun c C'' hc=>by rw [<-emro];exact hm' c C'' hc⟩
 own:=fun x k hx hk=>by
  have:=List.all_eq_true.mp hcl _ (lookup_mem hx)
  simp only at this
  split at this
  ·rename_i t ht
   have hm:=lookup_mem ht
   simp only [bcls,List.mem_cons,Prod.mk.injEq,List.not_mem_nil,or_false] at hm
   omega
  ·rename_i ht
   have ht':bcls.lookup k=none:=ht
   split at this
   ·rename_i C hC
    have hC':cl.lookup k=some C:=hC
    exact ⟨C,by show clsvOf cl k=_;unfold clsvOf;rw [ht'];simp only [hC']⟩
   ·cases this
structure CT (ns:List Int) (defs:List Def) (C:Nat->CallT):Prop where
 intro:∀{n f df ds H Q X},defs[f]?=some df->ds.length=df.np->vSs ns (C n) df.body (loc0 df ds) H (retQ Q) (fun k _ H'=>X k H')->C (n+1) f ds H Q X
 mono:∀{n f ds H} {Q Q':D->Hp->Prop} {X X':Nat->Hp->Prop},C n f ds H Q X->(∀d H,Q d H->Q' d H)->(∀k H,X k H->X' k H)->C n f ds H Q' X'
 up:∀{n m f ds H Q X},n<=m->C n f ds H Q X->C m f ds H Q X
noncomputable def selfS:Str:=Str.ofString "self"
noncomputable def initBody (b:List Stmt):Bool:=on1 b fun st=>stAssign st fun ts v _=>on1 ts fun tg=>onAttribute tg fun o x _=>onName o fun s _=>(s==selfS)&&(x==told)&&onList v fun es _=>onNil es
noncomputable def initOk (m:MethRec):Bool:=(m.name==Str.ofString "__init__")&&argsOk m.params&&(m.params.args.map (·.arg)==[selfS])&&(m.scope.names.lookup selfS==some .local)&&(m.scope.names.all (fun x=>x.2 != .cell)&&!m.scope.isCoroutine&&!m.scope.isGenerator&&(m.scope.kind==.function)&&initBody m.body)
noncomputable def rdIn (T:Tab) (defs:List Def) (c:ClsRec):Bool:=(c.name==T.rname)&&(T.meths.map (·.2)==List.range' T.fns.length T.meths.length)&&(c.statics.contains told)&&c.meths.any initOk&&T.meths.all fun p=>((p.1==Str.ofString "take")||(p.1==Str.ofString "table")) &&
 c.meths.any fun m=>(m.name==p.1)&&(match defs[p.2]? with | some df=>decide (df.np<=df.vs.length)&&chkDef T df ⟨m.name,m.params,m.body,m.scope,⟨0,0,0,0⟩⟩ | none=>false)
theorem lk_take:typeLookup (.type "object") (Str.ofString "take")=pure none:=by rw [typeLookup_type,builtinLookup_eq_fast];kernel_rfl
theorem lk_table:typeLookup (.type "object") (Str.ofString "table")=pure none:=by rw [typeLookup_type,builtinLookup_eq_fast];kernel_rfl
theorem meth_at {c:ClsRec} {C N:Addr} (P:PlainAt h c.withCmp C N mr) (hr:rdIn T defs c=true) {x:Str} {f:Nat} (hx:(x,f)∈T.meths) :
  mr x=some (.ref (faOf T mg mr f))/\(x=Str.ofString "take" \/ x=Str.ofString "table")/\(∃o fd,h.get? (faOf T mg mr f)=some o/\o.cls=.type "function" /\ o.data=.func fd)/\∃df d,defs[f]?=some df/\chkDef T df d=true/\df.np<=df.vs.length/\FnAt (mkB h scr ns T cl mg mb mr) f d:=by
 refine and5 hr fun h1 h2 h3 h4 h5=>?_
 have hall:=List.all_eq_true.mp h5 _ hx
 refine and2 hall fun q1 q2=>?_
 obtain ⟨m,hm,q2⟩:=List.any_eq_true.mp q2
 refine and2 q2 fun q3 q4=>?_
 have hn:m.name=x:=eq_of_beq q3
 obtain ⟨i,hi,hix⟩:=List.getElem_of_mem hx
 have hf:f=T.fns.length+i:=by
  have:=congrArg (fun l:List Nat=>l[i]?) (eq_of_beq h2)
  simp only [List.getElem?_map,List.getElem?_eq_getElem hi,Option.map_some,hix] at this
  rw [List.getElem?_range' hi] at this
  have:=Option.some.inj this
  exact Nat.le_antisymm (jl1 (jc3 _ _ _) j0 (jA j1 (jM 1 j2)) j0 (jA j1 j2) rfl (Nat.le_of_eq this)) (jl1 (jc3 _ _ _) (jA j0 (jM 1 j1)) j2 (jA j0 j1) j2 rfl (Nat.le_of_eq (Eq.symm this)))
 obtain ⟨fa,o,pm,cd,doc,g1,g2,g3,g4,g5⟩:=P.meths m hm
 rw [hn] at g1
 have ea:faOf T mg mr f=fa:=by
  unfold faOf
  rw [List.getElem?_eq_none (by exact jl1 (jc3 _ _ _) (jA j0 j2) j1 j0 j1 rfl (Nat.le_of_eq (Eq.symm hf))),show f - T.fns.length=i by exact Nat.le_antisymm (jl2 (jc4 (_ - _) _ _ _) j2 (jA j3 j1) (jA j0 j3) j2 j0 j1 rfl (Nat.le_of_eq hf) (Nat.le_of_eq (Nat.sub_add_cancel (jl1 (jc3 _ _ _) (jA j0 j2) j1 j0 j1 rfl (Nat.le_of_eq (Eq.symm hf)))))) (jl2 (jc4 _ (_ - _) _ _) (jA j2 j0) j3 j3 (jA j1 j2) j0 j1 rfl (Nat.le_of_eq (Eq.symm hf)) (Nat.le_add_of_sub_le (Nat.le_refl (_ - _)))),List.getElem?_eq_getElem hi,hix]
  simp only [g1]
 refine ⟨by rw [ea];exact g1,(Bool.or_eq_true_iff.mp q1).imp eq_of_beq eq_of_beq,⟨o,_,by rw [ea];exact g2,g3,g4⟩,?_⟩
 cases hd:defs[f]? with
 | none=>rw [show (match defs[(x,f).2]? with | some df=>_ | none=>false)=false by simp only [hd]] at q4;cases q4
 | some df=>
  simp only [hd] at q4
  refine and2 q4 fun q5 q6=>⟨df,_,rfl,q6,of_decide_eq_true q5,o,pm,cd,doc,_,?_,g4,g5⟩
  show h.get? (faOf T mg mr f)=some o
  rw [ea];exact g2
theorem rd_of {c:ClsRec} {C N:Addr} (P:PlainAt h c.withCmp C N mr) (hg:mg c.name=some (.ref C)) (hr:rdIn T defs c=true) (hne:T.meths≠[]):RdAt (mkB h scr ns T cl mg mb mr) T:=by
 have hm:=fun x f hx=>meth_at (mg:=mg) (mb:=mb) (scr:=scr) (ns:=ns) (cl:=cl) (x:=x) (f:=f) P hr hx
 refine and5 hr fun h1 h2 h3 h4 h5=>?_
 have hn:c.name=T.rname:=eq_of_beq h1
 rw [hn] at hg
 obtain ⟨m,hmm,hi⟩:=List.any_eq_true.mp h4
 refine and5 hi fun i1 i2 i3 i4 i5=>and5 i5 fun i5 i6 i7 i8 i9=>?_
 obtain ⟨fa,o,pm,cd,doc,g1,g2,g3,g4,g5⟩:=P.meths m hmm
 have hq:∀x,x∈c.withCmp.quiet->mr x=none:=P.quiet
 refine .mk C N mr ?_ P.cls hg (hq _ (List.mem_append_left _ (.tail _ (.head _)))) (hq _ (List.mem_append_left _ (.tail _ (.tail _ (.head _))))) (hq _ (List.mem_append_left _ (.head _))) (hq _ (List.mem_append_right _ (List.mem_append_left _ (List.contains_iff_mem.mp h3)))) ?_ fun x f hx=>?_
 ·show (match T.meths with | []=>Value.none | _::_=>(mg T.rname).getD .none)=_
  cases hT:T.meths with
  | nil=>exact absurd hT hne
  | cons a l=>simp only [hg];rfl
 ·obtain ⟨mn,mp,mbd,msc⟩:=m
  have i1:mn=Str.ofString "__init__" := eq_of_beq i1
  subst i1
  have i9:initBody mbd=true:=i9
  have shape:∃p1 p2 p3 p4,mbd=[.Assign [.Attribute (.Name selfS p1) told p2] (.List [] p3) p4]:=by
   refine Mine.i1 (P:=fun b=>∃p1 p2 p3 p4,b=[Stmt.Assign [.Attribute (.Name selfS p1) told p2] (.List [] p3) p4]) i9 fun st q=>?_
   refine jAssign (P:=fun st=>∃p1 p2 p3 p4,[st]=[Stmt.Assign [.Attribute (.Name selfS p1) told p2] (.List [] p3) p4]) q fun ts v p4 q=>?_
   refine Mine.i1 (P:=fun ts=>∃p1 p2 p3 p4',[Stmt.Assign ts v p4]=[Stmt.Assign [.Attribute (.Name selfS p1) told p2] (.List [] p3) p4']) q fun tg q=>?_
   refine iAttribute (P:=fun tg=>∃p1 p2 p3 p4',[Stmt.Assign [tg] v p4]=[Stmt.Assign [.Attribute (.Name selfS p1) told p2] (.List [] p3) p4']) q fun o x p2 q=>?_
   refine iName (P:=fun o=>∃p1 p2' p3 p4',[Stmt.Assign [.Attribute o x p2] v p4]=[Stmt.Assign [.Attribute (.Name selfS p1) told p2'] (.List [] p3) p4']) q fun s p1 q=>and3 q fun q1 q2 q3=>?_
   obtain rfl:=eq_of_beq q1
   obtain rfl:=eq_of_beq q2
   refine iList (P:=fun v=>∃p1' p2' p3 p4',[Stmt.Assign [.Attribute (.Name selfS p1) told p2] v p4]=[Stmt.Assign [.Attribute (.Name selfS p1') told p2'] (.List [] p3) p4']) q3 fun es p3 q=>?_
   exact iNil (P:=fun es=>∃p1' p2' p3' p4',[Stmt.Assign [.Attribute (.Name selfS p1) told p2] (.List es p3) p4]=[Stmt.Assign [.Attribute (.Name selfS p1') told p2'] (.List [] p3') p4']) q ⟨p1,p2,p3,p4,rfl⟩
  obtain ⟨p1,p2,p3,p4,rfl⟩:=shape
  exact .mk fa o _ mp msc pm cd doc p1 p2 p3 p4 g1 g2 g3 g4 g5 (argsOk_eq i2) (eq_of_beq i3) (eq_of_beq i4) (fun x hx e=>by have:=List.all_eq_true.mp i5 x hx;rw [e] at this;exact absurd this (by decide)) (by simpa using i6) (by simpa using i7) (eq_of_beq i8)
 ·obtain ⟨k1,k2,k3,_⟩:=hm x f (lookup_mem hx)
  refine ⟨?_,k1,?_,k3⟩
  ·rcases k2 with rfl | rfl <;> (unfold told;decide+kernel)
  ·rcases k2 with rfl | rfl
   ·exact ⟨_,lk_take⟩
   ·exact ⟨_,lk_table⟩
theorem meths_of {c:ClsRec} {C N:Addr} (P:PlainAt h c.withCmp C N mr) (hf:fnsIn q T defs=true) (hr:rdIn T defs c=true) (f:Nat) (h1:T.fns.length<=f) (h2:f < defs.length):∃df d,defs[f]?=some df/\chkDef T df d=true/\df.np<=df.vs.length/\FnAt (mkB h scr ns T cl mg mb mr) f d:=by
 have hlen:T.fns.length+T.meths.length=defs.length:=by
  simp only [fnsIn,Bool.and_eq_true,beq_iff_eq] at hf
  exact hf.1
 have hi:f - T.fns.length < T.meths.length:=by exact jl3 (jc5 (_ - _) _ _ _ _) j2 (jA j3 j1) (jA j4 (jK 1)) j2 (jA j0 j3) j4 (jA j0 (jK 1)) j1 rfl (Nat.le_of_eq (Eq.symm hlen)) h2 (Nat.le_of_eq (Nat.sub_add_cancel (jl1 (jc2 _ _) j0 j1 j0 j1 rfl h1)))
 have e:(T.meths[f - T.fns.length]'hi).2=f:=and5 hr fun _ k2 _ _ _=>by
  have:=congrArg (fun l:List Nat=>l[f - T.fns.length]?) (eq_of_beq k2)
  simp only [List.getElem?_map,List.getElem?_eq_getElem hi,Option.map_some,List.getElem?_range' hi] at this
  have:=Option.some.inj this
  exact Nat.le_antisymm (jl2 (jc4 _ _ _ (_ - _)) j0 (jA j2 (jM 1 j3)) (jA j3 j2) j1 j0 j1 rfl (Nat.le_of_eq this) (Nat.le_of_eq (Nat.sub_add_cancel (jl1 (jc2 _ _) j0 j1 j0 j1 rfl h1)))) (jl2 (jc4 _ _ _ (_ - _)) (jA j2 (jM 1 j3)) j1 j0 (jA j3 j2) j0 j1 rfl (Nat.le_of_eq (Eq.symm this)) (Nat.le_add_of_sub_le (Nat.le_refl (_ - _))))
 have hm:((T.meths[f - T.fns.length]'hi).1,f)∈T.meths:=by
  have:=List.getElem_mem hi
  rwa [show T.meths[f - T.fns.length]'hi=((T.meths[f - T.fns.length]'hi).1,f) from Prod.ext rfl e] at this
 exact (meth_at P hr hm).2.2.2
theorem ct_of (T0:Top q loose mean mg mb h) (hf:fnsIn q T defs=true) (hM:∀f,T.fns.length<=f->f < defs.length->∃df d,defs[f]?=some df/\chkDef T df d=true/\df.np<=df.vs.length/\FnAt (mkB h scr ns T cl mg mb mr) f d)
  (hB:BOk prog w (mkB h scr ns T cl mg mb mr) T) (hX:XOk (mkB h scr ns T cl mg mb mr) T):CT ns defs (CallS prog w (mkB h scr ns T cl mg mb mr)) where
 intro:=fun {n f df ds H Q X} hd hl hv=>by
  have hi:f < defs.length:=(List.getElem?_eq_some_iff.mp hd).1
  by_cases hfl:f < T.fns.length
  ·obtain ⟨df',d,h1,h2,h3,_,h4⟩:=fn_at (mr:=mr) (scr:=scr) (ns:=ns) (cl:=cl) T0 hf (List.getElem?_eq_getElem hfl)
   rw [hd] at h1;cases h1
   exact call_intro hB.nolimit (fun x=>sndSs hB hX x) h4 h2 hl h3 hv
  ·obtain ⟨df',d,h1,h2,h3,h4⟩:=hM f (by exact jk8 hfl) hi
   rw [hd] at h1;cases h1
   exact call_intro hB.nolimit (fun x=>sndSs hB hX x) h4 h2 hl h3 hv
 mono:=fun {n f ds H Q Q' X X'} hc h1 h2 A s vals a c b r=>wpAny_mono (hc A s vals a c b r) (fun v s' hp=>by
  obtain ⟨d,H',p1,p2,p3,p4,p5⟩:=hp
  exact ⟨d,H',p1,p2,p3,p4,h1 _ _ p5⟩) fun e s' hp=>by
  obtain ⟨k,H',a',p1,p2,p3,p4,p5,p6⟩:=hp
  exact ⟨k,H',a',p1,p2,p3,p4,p5,h2 _ _ p6⟩
 up:=fun hn hc A s vals a c b r=>hc A s vals (a.le hn) c b r
theorem call_end {n f:Nat} {s₁:Shared} (hn:n<=680) (hc:CallS prog w (mkB s₁.heap scr ns T cl mg mb mr) n f [.scr] (fun _=>none) (fun d _=>d=.bool true) (fun _ _=>False)) :
  wpAny (model prog w) callerA (call (.ref (faOf T mg mr f)) [.ref scr]) (fun v s'=>v=.bool true/\(∀b o,s₁.heap.get? b=some o->s'.heap.get? b=some o)/\s'.os=s₁.os/\s'.gens=s₁.gens) (fun _ _=>False) s₁:=by
 refine wpAny_mono (hc callerA s₁ [.ref scr] ⟨by show 301+n<=990;exact jl1 (jc1 _) j0 (jK 680) (jA (jK 301) j0) (jK 990) rfl hn,by show 4+10*n<=9000;exact jl1 (jc1 _) (jM 10 j0) (jM 10 (jK 680)) (jA (jK 4) (jM 10 j0)) (jK 9000) rfl (jm _ 10 j0 (jK 680) hn),⟨[],rfl,fun _ h=>by cases h⟩,rfl,[],rfl,trivial⟩ (fun a o e=>by cases e) (fun a o e=>e) (.cons (by simp only [Rep];rfl) .nil)) (fun v s' hp=>?_) fun e s' hp=>?_
 ·obtain ⟨d,H',p1,p2,p3,p4,rfl⟩:=hp
  simp only [Rep] at p1
  exact ⟨p1,p3,p4.os,p4.gens⟩
 ·obtain ⟨k,H',a',p1,p2,p3,p4,p5,p6⟩:=hp
  exact p6
end
end Mine
set_option Elab.async false
set_option maxRecDepth 100000
namespace Mine
open PySem PyProof.Rows PySem.W
section
variable {q:Program} {loose:List Str} {mean:ExcName->Option Value} {mg mb:Str->Option Value} {h:Heap} {K:Frag} {T:Tab} {cl:List (Nat×Addr)} {defs:List Def}
theorem fns_eq (_:Top q loose mean mg mb h) (e:fnsIn q T defs=true):fnsIn q T defs=true:=e
theorem consts_eq (_:K.In h) (e:constsIn K T.consts=true):constsIn K T.consts=true:=e
theorem clss_eq (_:K.In h) (e:clssIn K cl T.clss=true):clssIn K cl T.clss=true:=e
theorem blt_eq (_:K.In h) (e:bltIn K=true):bltIn K=true:=e
theorem excx_eq (_:K.In h) (e:excX K cl=true):excX K cl=true:=e
theorem excs_eq (_:K.In h) (e:excsIn K cl=true):excsIn K cl=true:=e
theorem rd_eq {l:List Str} (e:(plainsOf q l).any (rdIn T defs)=true):∃c∈plainsOf q l,rdIn T defs c=true:=List.any_eq_true.mp e
end
theorem good_of {l:OpenLaw} {cl:Str->Option Addr} {mean:ExcName->Option Value} {args:List WData} {s₁ s':Shared} (hk:∀b o,s₁.heap.get? b=some o->s'.heap.get? b=some o) (ho:s'.os=s₁.os) (hg:s'.gens=#[]) :
  GoodWG l.row.toRowW.claim cl mean args s₁ (.ok (.ret (.bool true))) s':=by
 refine ⟨Or.inl ⟨.bool true,.bool true,[],rfl,fun cls=>rfl,.bool true,?_,fun _=>⟨List.nodup_nil,fun _ h=>by cases h⟩⟩,OldK.of_keep hk,ho,?_⟩
 ·show (WShape.has [] (.bool true) .bool&&WTm.holds [] (.eq .res (.lit (.bool true))) { args:=args,res:=some (.bool true),after:=args })=true
  with_unfolding_all rfl
 ·rw [hg];intro y hy;simp at hy
theorem script_at {P:Params} {h:Heap} {sa:Addr} {ns:List Int} {us:List Value} (wl:Well P h (.ref sa) (ofPy (.list (ns.map .int)))) (hL:h.IsList sa us.toArray) (hI:IntsAre us ns) (hn:¬((63:Nat):Int) < (ns.length:Int)) :
  ∃vs n,IsL h sa vs n/\IntsAre vs.toList ns/\ns.length<=63:=by
 generalize hv:Value.ref sa=v at wl
 generalize hd:ofPy (.list (ns.map .int))=d at wl
 cases wl with
 | list e _=>
  cases hv
  obtain ⟨o,e',_,n,hd'⟩:=hL
  rw [e] at e';cases e'
  cases hd'
  exact ⟨_,_,e,by simpa using hI,by exact Int.ofNat_le.mp (ul1 (uc1 ((_:Nat):Int)) u0 (uK 63) u0 (uK 63) rfl (Int.not_lt.mp hn))⟩
 | none=>cases hv
 | bool=>cases hv
 | int=>cases hv
 | str=>cases hv
 | float=>cases hv
 | bytes=>cases hv
 | _=>simp [ofPy] at hd
end Mine
set_option Elab.async false
namespace Mine
open PySem
theorem set_self' {H:Hp} {a:Addr} {o:HObj}:(H.set a o) a=some o:=Hp.set_self ..
theorem set_ne {H:Hp} {a b:Addr} {o:HObj} (h:b≠a):(H.set a o) b=H b:=Hp.set_other _ _ h
theorem set_old {H:Hp} {a b:Addr} {o x:HObj} (hb:H b=some x) (ha:H a=none):(H.set a o) b=some x:=by
 rw [Hp.set_other];exact hb
 intro q;subst q;rw [hb] at ha;cases ha
theorem le_set {H H':Hp} {a:Addr} {o:HObj} (h:H.Le H') (ha:H' a=none):H.Le (H'.set a o):=h.trans (.set o ha)
theorem flat_one {α β:Type} (l:List α) (f:α->β):(l.map fun x=>[f x]).flatten=l.map f:=by
 induction l with
 | nil=>rfl
 | cons x l ih=>simp [ih]
section
variable {H:Hp} {Q:D->Hp->Prop} {a b i j k:Int} {x y z:D} {l m:List Nat} {r r':Addr} {ds es:List D} {B ns:List Int}
theorem eqD_ref (h1:H r=some (.list ds)) (h2:H r'=some (.list es)) (h3:ds.all (okF 8)=true) (h4:es.all (okF 8)=true):eqD H (.ref r) (.ref r')=some (decide (ds.length=es.length)&&eqvs0 ds es):=by
 show eqL (H r) (H r')=_
 rw [h1,h2]
 show (if ds.length≠es.length then some false else if (ds.all (okF 8)&&es.all (okF 8))=true then some (eqvs0 ds es) else none)=_
 rw [h3,h4]
 by_cases q:ds.length=es.length <;> simp [q]
theorem memD_ok (h1:okF 8 x=true) (h2:ds.all (okF 8)=true):memD x ds=some (ds.any fun y=>eqv0 y x):=by
 unfold memD;rw [h1,h2];rfl
theorem cmp_in_ref (h:H r=some (.list ds)):vCmp .inn x (.ref r) H=memD x ds:=by
 show (match H r with | some (.list l)=>memD x l | _=>none)=_
 rw [h]
theorem cmp_nin_ref (h:H r=some (.list ds)):vCmp .notin x (.ref r) H=(memD x ds).map fun b=>!b:=by
 show (vCmp .inn x (.ref r) H).map _=_
 rw [cmp_in_ref h]
theorem cmp_in_new:vCmp .inn x (.ref r) (H.set r (.list ds))=memD x ds:=cmp_in_ref set_self'
theorem pix_of (n:Nat) {i:Int} (h0:0<=i) (h1:i < n):pix n i=some i.toNat:=by unfold pix;rw [if_pos h0,if_pos h1]
theorem item_lt {n:Nat} (h:ds[n]?=some x) (hQ:Q x H) (hr:H r=some (.list ds)):vItem (.ref r) (.int n) B H Q:=by
 have hl:=(List.getElem?_eq_some_iff.mp h).1
 exact ⟨ds,n,x,hr,by rw [pix_of _ (by exact jk1) (by exact jk15 hl)];rfl,h,hQ⟩
theorem item_ltS {n c:Nat} (h:l[n]?=some c) (hQ:Q (.str [c]) H):vItem (.str l) (.int n) B H Q:=by
 have hl:=(List.getElem?_eq_some_iff.mp h).1
 exact ⟨n,c,by rw [pix_of _ (by exact jk1) (by exact jk15 hl)];rfl,h,hQ⟩
theorem item_ltM {i:Int} (h0:0<=i) (h:ds[i.toNat]?=some x) (hQ:Q x H) (hr:H r=some (.list ds)):vItem (.ref r) (.int i) B H Q:=by
 obtain ⟨n,rfl⟩:=Int.eq_ofNat_of_zero_le h0
 exact item_lt h hQ hr
theorem item_ltSM {i:Int} {c:Nat} (h0:0<=i) (h:l[i.toNat]?=some c) (hQ:Q (.str [c]) H):vItem (.str l) (.int i) B H Q:=by
 obtain ⟨n,rfl⟩:=Int.eq_ofNat_of_zero_le h0
 exact item_ltS h hQ
theorem item_last (hQ:Q x H) (hr:H r=some (.list (ds++[x]))):vItem (.ref r) (.int (-1)) B H Q:=
 ⟨ds++[x],ds.length,x,hr,by simp [pix];omega,by simp,hQ⟩
theorem clip_int {n d:Nat} (h:0<=i):clipAt n d (.int i)=some (min i.toNat n):=by
 show some (if 0<=i then min i.toNat n else (i+n).toNat)=_
 rw [if_pos h]
theorem isI_ref {c:Nat} (h:10<=c/\c<=14) (hr:H r=some (.list ds)):isI H (.ref r) c=some (c==14):=by
 show (match H r with | some (.list _)=>if 10<=c/\c<=14 then some (c==14) else none | _=>none)=_
 rw [hr]
 show (if 10<=c/\c<=14 then some (c==14) else none)=_
 rw [if_pos h]
theorem iter_ref (h:H r=some (.list ds)):iterD H (.ref r)=some ds:=by
 show (match H r with | some (.list l)=>some l | _=>none)=_
 rw [h]
theorem iter_rng (h:-400000<=a/\a<=400000/\-400000<=b/\b<=400000):iterD H (.rng a b)=some (intsOf a b):=by
 show (if -400000<=a/\a<=400000/\-400000<=b/\b<=400000 then some (intsOf a b) else none)=_
 rw [if_pos h]
end
theorem compL_filter {src:D} {all:List D} {f:D->Hp->(Option D->Hp->Prop)->Prop} {Qf:List D->Hp->Prop} (g:D->Option D) (I:Hp->Prop) (hsrc:∀H,I H->iterD H src=some all)
  (hf:∀d∈all,∀H K,I H->(∀H',I H'->K (g d) H')->f d H K) (hQ:∀H,I H->Qf (all.filterMap g) H) {H:Hp} (h:I H):compL src all f Qf all [] H:=by
 have main:∀(ds pre:List D) (H:Hp),all=pre++ds->I H->compL src all f Qf ds (pre.filterMap g) H:=by
  intro ds
  induction ds with
  | nil=>intro pre H e hI;rw [List.append_nil] at e;subst e;exact ⟨hsrc H hI,hQ H hI⟩
  | cons d ds ih=>
   intro pre H e hI
   refine ⟨hsrc H hI,hf d (by rw [e];simp) H _ hI fun H' hI'=>?_⟩
   have:=ih (pre++[d]) H' (by rw [e];simp) hI'
   rw [List.filterMap_append] at this
   cases hg:g d with
   | none=>simpa [hg] using this
   | some x=>simpa [hg] using this
 simpa using main all [] H rfl h
theorem compL_map {src:D} {all:List D} {f:D->Hp->(Option D->Hp->Prop)->Prop} {Qf:List D->Hp->Prop} (g:D->D) (I:Hp->Prop) (hsrc:∀H,I H->iterD H src=some all)
  (hf:∀d∈all,∀H K,I H->(∀H',I H'->K (some (g d)) H')->f d H K) (hQ:∀H,I H->Qf (all.map g) H) {H:Hp} (h:I H):compL src all f Qf all [] H:=
 compL_filter (fun d=>some (g d)) I hsrc hf (fun H hI=>by simpa using hQ H hI) h
theorem strsOf_map {α:Type} (l:List α) (f:α->List Nat):strsOf (l.map fun x=>D.str (f x))=some (l.map f):=by
 induction l with
 | nil=>rfl
 | cons x l ih=>
  show (strsOf (l.map fun x=>D.str (f x))).map _=_
  rw [ih];rfl
theorem joinS_nil (l:List (List Nat)):joinS [] l=l.flatten:=by
 induction l with
 | nil=>rfl
 | cons x l ih=>
  cases l with
  | nil=>simp [joinS]
  | cons y r=>
   show x++[]++joinS [] (y::r)=_
   rw [ih];simp
theorem intsOf_zero (n:Nat):intsOf 0 n=(List.range n).map fun k:Nat=>D.int k:=by simp [intsOf]
theorem mulOk_left {a b:Int} (h:a.natAbs < 2 ^ 64):MulOk a b:=Or.inl h
theorem mulOk_right {a b:Int} (h:b.natAbs < 2 ^ 64):MulOk a b:=Or.inr h
end Mine
set_option maxRecDepth 100000
namespace Mine.L
open PySem PyProof.Rows PySem.W Mine
noncomputable def k_ALONE:List Nat:=[40,41,59]
noncomputable def k_SIGNS:List Nat:=[33,34,35,36,38,39,42,43,44,45,46,47,48,49,50,51,52,53,54,55,56,57,58,60,61,62,63,64,65,66,67,68,69,70,71,72,73,74,75,76,77,78,79,80,81,82,83,84,85,86,87,88,89,90,91,92,93,94,95,96,97,98,99,100,101,102,103,104,105,106,107,108,109,110,111,112,113,114,115,116,117,118,119,120,121,122,123,124,125,126]
noncomputable def k_FIGURES:List Nat:=[48,49,50,51,52,53,54,55,56,57]
noncomputable def b_is_word_0:List St:=[.ret (.lit (.bool true))]
noncomputable def b_is_word_1:List St:=[.ite (.cmp .notin (.var 1) (.lit (.str k_SIGNS)))
   [.ret (.lit (.bool false))]
   []]
noncomputable def b_is_word_2:List St:=((.forS 1 (.var 0)
  b_is_word_1)::b_is_word_0)
noncomputable def d_is_word:Def:=⟨[(Str.ofString "thing"),(Str.ofString "sign")],1,
 ((.ite (.or (.not (.bi .isinst [(.var 0),(.lit (.cls 10))])) (.or (.not (.cmp2 .le .le (.lit (.int 1)) (.bi .len [(.var 0)]) (.lit (.int 8)))) (.cmp .eq (.var 0) (.lit (.str [116,101,108,108])))))
  [.ret (.lit (.bool false))]
  [])::b_is_word_2)⟩
noncomputable def b_cut_0:List St:=[.ret (.var 1)]
noncomputable def b_cut_1:List St:=[.ite (.cmp .inn (.var 3) (.lit (.str k_ALONE)))
   [.expr (.meth .append (.var 1) [(.var 3)])]
   []]
noncomputable def b_cut_2:List St:=((.assign 2 (.lit (.str [])))::b_cut_1)
noncomputable def b_cut_3:List St:=((.ite (.cmp .ne (.var 2) (.lit (.str [])))
   [.expr (.meth .append (.var 1) [(.var 2)])]
   [])::b_cut_2)
noncomputable def b_cut_4:List St:=((.ite (.cmp .gt (.bi .len [(.var 2)]) (.lit (.int 8)))
   [.raise 1]
   [])::b_cut_3)
noncomputable def b_cut_5:List St:=((.ite (.and (.cmp .notin (.var 3) (.lit (.str k_ALONE))) (.and (.cmp .ne (.var 3) (.lit (.str [32]))) (.cmp .ne (.var 3) (.lit (.str [10])))))
   [.raise 1]
   [])::b_cut_4)
noncomputable def b_cut_6:List St:=[.cont]
noncomputable def b_cut_7:List St:=((.ite (.cmp .inn (.var 3) (.lit (.str k_SIGNS)))
   ((.assign 2 (.bin .add (.var 2) (.var 3)))::b_cut_6)
   [])::b_cut_5)
noncomputable def b_cut_8:List St:=((.forS 3 (.bin .add (.var 0) (.lit (.str [32])))
  b_cut_7)::b_cut_0)
noncomputable def b_cut_9:List St:=((.assign 2 (.lit (.str [])))::b_cut_8)
noncomputable def d_cut:Def:=⟨[(Str.ofString "text"),(Str.ofString "found"),(Str.ofString "word"),(Str.ofString "sign")],1,
 ((.assign 1 (.list []))::b_cut_9)⟩
noncomputable def b_is_telling_0:List St:=[.ret (.call 0 [(.item (.var 0) (.lit (.int 3)))])]
noncomputable def b_is_telling_1:List St:=((.ite (.or (.not (.bi .isinst [(.item (.var 0) (.lit (.int 2))),(.lit (.cls 11))])) (.or (.bi .isinst [(.item (.var 0) (.lit (.int 2))),(.lit (.cls 12))]) (.not (.cmp2 .le .le (.lit (.int 1)) (.item (.var 0) (.lit (.int 2))) (.lit (.int 30))))))
  [.ret (.lit (.bool false))]
  [])::b_is_telling_0)
noncomputable def b_is_telling_2:List St:=((.ite (.or (.not (.bi .isinst [(.item (.var 0) (.lit (.int 1))),(.lit (.cls 10))])) (.cmp .notin (.item (.var 0) (.lit (.int 1))) (.lit (.tup [(.str [108,101,102,116]),(.str [114,105,103,104,116]),(.str [110,111,110,101]),(.str [98,101,102,111,114,101]),(.str [98,101,104,105,110,100])]))))
  [.ret (.lit (.bool false))]
  [])::b_is_telling_1)
noncomputable def d_is_telling:Def:=⟨[(Str.ofString "thing")],1,
 ((.ite (.or (.not (.bi .isinst [(.var 0),(.lit (.cls 13))])) (.or (.cmp .ne (.bi .len [(.var 0)]) (.lit (.int 4))) (.or (.not (.bi .isinst [(.item (.var 0) (.lit (.int 0))),(.lit (.cls 10))])) (.cmp .ne (.item (.var 0) (.lit (.int 0))) (.lit (.str [116,101,108,108]))))))
  [.ret (.lit (.bool false))]
  [])::b_is_telling_2)⟩
noncomputable def b_role_0:List St:=[.ret (.lit .none)]
noncomputable def b_role_1:List St:=[.ite (.and (.cmp .eq (.item (.var 3) (.lit (.int 3))) (.var 1)) (.cmp .eq (.cmp .eq (.item (.var 3) (.lit (.int 1))) (.lit (.str [98,101,102,111,114,101]))) (.var 2)))
   [.ret (.var 3)]
   []]
noncomputable def d_role:Def:=⟨[(Str.ofString "table"),(Str.ofString "word"),(Str.ofString "ahead"),(Str.ofString "telling")],3,
 ((.forS 3 (.var 0)
  b_role_1)::b_role_0)⟩
noncomputable def b_added_0:List St:=[.ret (.bin .add (.var 0) (.list [(.var 1)]))]
noncomputable def b_added_1:List St:=((.ite (.cmp .isnot (.call 3 [(.var 0),(.item (.var 1) (.lit (.int 3))),(.cmp .eq (.item (.var 1) (.lit (.int 1))) (.lit (.str [98,101,102,111,114,101])))]) (.lit .none))
  [.raise 3]
  [])::b_added_0)
noncomputable def b_added_2:List St:=[.ite (.and (.cmp .eq (.item (.var 2) (.lit (.int 2))) (.item (.var 1) (.lit (.int 2)))) (.cmp .ne (.item (.var 2) (.lit (.int 1))) (.item (.var 1) (.lit (.int 1)))))
   [.raise 3]
   []]
noncomputable def b_added_3:List St:=((.forS 2 (.var 0)
  b_added_2)::b_added_1)
noncomputable def d_added:Def:=⟨[(Str.ofString "table"),(Str.ofString "telling"),(Str.ofString "other")],2,
 ((.ite (.not (.call 2 [(.var 1)]))
  [.raise 2]
  [])::b_added_3)⟩
noncomputable def d_is_name:Def:=⟨[(Str.ofString "table"),(Str.ofString "thing")],2,
 [.ret (.and (.call 0 [(.var 1)]) (.and (.cmp .is (.call 3 [(.var 0),(.var 1),(.lit (.bool true))]) (.lit .none)) (.cmp .is (.call 3 [(.var 0),(.var 1),(.lit (.bool false))]) (.lit .none))))]⟩
noncomputable def b_enough_0:List St:=[.ret (.cmp .ge (.var 2) (.item (.var 0) (.lit (.int 2))))]
noncomputable def d_enough:Def:=⟨[(Str.ofString "telling"),(Str.ofString "place"),(Str.ofString "power")],3,
 ((.ite (.or (.cmp .eq (.item (.var 0) (.lit (.int 1))) (.lit (.str [110,111,110,101]))) (.or (.and (.cmp .eq (.item (.var 0) (.lit (.int 1))) (.lit (.str [108,101,102,116]))) (.cmp .eq (.var 1) (.lit (.int 1)))) (.and (.cmp .eq (.item (.var 0) (.lit (.int 1))) (.lit (.str [114,105,103,104,116]))) (.cmp .eq (.var 1) (.lit (.int 0))))))
  [.ret (.cmp .gt (.var 2) (.item (.var 0) (.lit (.int 2))))]
  [])::b_enough_0)⟩
noncomputable def b_first_at_0:List St:=[.ret (.tup [(.tup [(.lit (.str [98,101,102,111,114,101])),(.item (.var 1) (.var 2)),(.var 4)]),(.item (.var 7) (.lit (.int 2))),(.var 6)])]
noncomputable def b_first_at_1:List St:=((.assignT [4,5,6] (.call 9 [(.var 0),(.var 1),(.bin .add (.var 2) (.lit (.int 1))),(.item (.var 7) (.lit (.int 2)))]))::b_first_at_0)
noncomputable def b_first_at_2:List St:=((.ite (.or (.cmp .is (.var 7) (.lit .none)) (.cmp .lt (.item (.var 7) (.lit (.int 2))) (.var 3)))
  [.raise 4]
  [])::b_first_at_1)
noncomputable def b_first_at_3:List St:=((.assign 7 (.call 3 [(.var 0),(.item (.var 1) (.var 2)),(.lit (.bool true))]))::b_first_at_2)
noncomputable def b_first_at_4:List St:=((.ite (.call 5 [(.var 0),(.item (.var 1) (.var 2))])
  [.ret (.tup [(.item (.var 1) (.var 2)),(.lit (.int 31)),(.bin .add (.var 2) (.lit (.int 1)))])]
  [])::b_first_at_3)
noncomputable def b_first_at_5:List St:=[.ret (.tup [(.var 4),(.lit (.int 31)),(.bin .add (.var 6) (.lit (.int 1)))])]
noncomputable def b_first_at_6:List St:=((.ite (.or (.cmp .eq (.var 6) (.bi .len [(.var 1)])) (.cmp .ne (.item (.var 1) (.var 6)) (.lit (.str [41]))))
   [.raise 4]
   [])::b_first_at_5)
noncomputable def b_first_at_7:List St:=((.ite (.cmp .eq (.item (.var 1) (.var 2)) (.lit (.str [40])))
  ((.assignT [4,5,6] (.call 9 [(.var 0),(.var 1),(.bin .add (.var 2) (.lit (.int 1))),(.lit (.int 1))]))::b_first_at_6)
  [])::b_first_at_4)
noncomputable def d_first_at:Def:=⟨[(Str.ofString "table"),(Str.ofString "row"),(Str.ofString "at"),(Str.ofString "least"),(Str.ofString "tree"),(Str.ofString "power"),(Str.ofString "end"),(Str.ofString "telling")],4,
 ((.ite (.cmp .eq (.var 2) (.bi .len [(.var 1)]))
  [.raise 4]
  [])::b_first_at_7)⟩
noncomputable def b_least_right_0:List St:=[.ret (.bin .add (.item (.var 0) (.lit (.int 2))) (.lit (.int 1)))]
noncomputable def d_least_right:Def:=⟨[(Str.ofString "telling")],1,
 ((.ite (.call 6 [(.var 0),(.lit (.int 1)),(.item (.var 0) (.lit (.int 2)))])
  [.ret (.item (.var 0) (.lit (.int 2)))]
  [])::b_least_right_0)⟩
noncomputable def b_read_at_0:List St:=[.ret (.tup [(.var 4),(.var 5),(.var 6)])]
noncomputable def b_read_at_1:List St:=[.assign 5 (.item (.var 8) (.lit (.int 2)))]
noncomputable def b_read_at_2:List St:=[.assign 6 (.bin .add (.var 6) (.lit (.int 1)))]
noncomputable def b_read_at_3:List St:=[.assign 4 (.tup [(.lit (.str [98,101,116,119,101,101,110])),(.var 7),(.var 4),(.var 9)])]
noncomputable def b_read_at_4:List St:=((.ite (.cmp .eq (.item (.var 8) (.lit (.int 1))) (.lit (.str [98,101,104,105,110,100])))
   ((.assign 4 (.tup [(.lit (.str [98,101,104,105,110,100])),(.var 7),(.var 4)]))::b_read_at_2)
   ((.assignT [9,5,6] (.call 9 [(.var 0),(.var 1),(.bin .add (.var 6) (.lit (.int 1))),(.call 8 [(.var 8)])]))::b_read_at_3))::b_read_at_1)
noncomputable def b_read_at_5:List St:=((.ite (.or (.cmp .is (.var 8) (.lit .none)) (.or (.cmp .lt (.item (.var 8) (.lit (.int 2))) (.var 3)) (.not (.call 6 [(.var 8),(.lit (.int 0)),(.var 5)]))))
   [.brk]
   [])::b_read_at_4)
noncomputable def b_read_at_6:List St:=((.assign 8 (.call 3 [(.var 0),(.var 7),(.lit (.bool false))]))::b_read_at_5)
noncomputable def b_read_at_7:List St:=((.assign 7 (.item (.var 1) (.var 6)))::b_read_at_6)
noncomputable def b_read_at_8:List St:=((.whileS (.cmp .lt (.var 6) (.bi .len [(.var 1)]))
  b_read_at_7)::b_read_at_0)
noncomputable def d_read_at:Def:=⟨[(Str.ofString "table"),(Str.ofString "row"),(Str.ofString "at"),(Str.ofString "least"),(Str.ofString "tree"),(Str.ofString "power"),(Str.ofString "end"),(Str.ofString "word"),(Str.ofString "telling"),(Str.ofString "right")],4,
 ((.assignT [4,5,6] (.call 7 [(.var 0),(.var 1),(.var 2),(.var 3)]))::b_read_at_8)⟩
noncomputable def b_tree_of_0:List St:=[.ret (.var 2)]
noncomputable def b_tree_of_1:List St:=((.ite (.cmp .ne (.var 4) (.bi .len [(.var 1)]))
  [.raise 4]
  [])::b_tree_of_0)
noncomputable def b_tree_of_2:List St:=((.assignT [2,3,4] (.call 9 [(.var 0),(.var 1),(.lit (.int 0)),(.lit (.int 1))]))::b_tree_of_1)
noncomputable def d_tree_of:Def:=⟨[(Str.ofString "table"),(Str.ofString "row"),(Str.ofString "tree"),(Str.ofString "power"),(Str.ofString "end")],2,
 ((.ite (.cmp .gt (.bi .len [(.var 1)]) (.lit (.int 99)))
  [.raise 6]
  [])::b_tree_of_2)⟩
noncomputable def b_strength_of_0:List St:=[.ret (.bi .int [(.var 0)])]
noncomputable def b_strength_of_1:List St:=[.ite (.cmp .notin (.var 1) (.lit (.str k_FIGURES)))
   [.raise 2]
   []]
noncomputable def b_strength_of_2:List St:=((.forS 1 (.var 0)
  b_strength_of_1)::b_strength_of_0)
noncomputable def d_strength_of:Def:=⟨[(Str.ofString "word"),(Str.ofString "sign")],1,
 ((.ite (.or (.not (.cmp2 .le .le (.lit (.int 1)) (.bi .len [(.var 0)]) (.lit (.int 2)))) (.cmp .eq (.item (.var 0) (.lit (.int 0))) (.lit (.str [48]))))
  [.raise 2]
  [])::b_strength_of_2)⟩
noncomputable def b_telling_of_0:List St:=[.ret (.tup [(.lit (.str [116,101,108,108])),(.item (.var 0) (.lit (.int 1))),(.call 11 [(.item (.var 0) (.lit (.int 2)))]),(.item (.var 0) (.lit (.int 3)))])]
noncomputable def d_telling_of:Def:=⟨[(Str.ofString "row")],1,
 ((.ite (.cmp .ne (.bi .len [(.var 0)]) (.lit (.int 4)))
  [.raise 2]
  [])::b_telling_of_0)⟩
noncomputable def b_read_0:List St:=[.ret (.var 2)]
noncomputable def b_read_1:List St:=((.ite (.cmp .gt (.bi .len [(.var 3)]) (.lit (.int 0)))
  [.raise 4]
  [])::b_read_0)
noncomputable def b_read_2:List St:=[.assign 3 (.list [])]
noncomputable def b_read_3:List St:=[.ite (.cmp .eq (.var 4) (.lit (.str [59])))
   ((.expr (.meth .append (.var 2) [(.mcall 46 (.var 1) [(.var 3)])]))::b_read_2)
   [.expr (.meth .append (.var 3) [(.var 4)])]]
noncomputable def b_read_4:List St:=((.forS 4 (.call 1 [(.var 0)])
  b_read_3)::b_read_1)
noncomputable def b_read_5:List St:=((.assign 3 (.list []))::b_read_4)
noncomputable def b_read_6:List St:=((.assign 2 (.list []))::b_read_5)
noncomputable def d_read:Def:=⟨[(Str.ofString "text"),(Str.ofString "reader"),(Str.ofString "found"),(Str.ofString "row"),(Str.ofString "word")],1,
 ((.assign 1 .new)::b_read_6)⟩
noncomputable def b_l_mixed_0:List St:=[.ret (.bin .mod (.bin .mul (.var 2) (.var 2)) (.lit (.int 2147483629)))]
noncomputable def d_l_mixed:Def:=⟨[(Str.ofString "_law_cell"),(Str.ofString "_law_k"),(Str.ofString "_law_left")],2,
 ((.assign 2 (.bin .mod (.bin .mul (.bin .add (.var 0) (.bin .mul (.lit (.int 7919)) (.var 1))) (.lit (.int 48271))) (.lit (.int 2147483647))))::b_l_mixed_0)⟩
noncomputable def b_l_cell_at_0:List St:=[.ret (.lit (.int 0))]
noncomputable def d_l_cell_at:Def:=⟨[(Str.ofString "_law_script"),(Str.ofString "_law_k")],2,
 ((.ite (.cmp .lt (.var 1) (.bi .len [(.var 0)]))
  [.ret (.call 14 [(.item (.var 0) (.var 1)),(.var 1)])]
  [])::b_l_cell_at_0)⟩
noncomputable def d_l_cells:Def:=⟨[(Str.ofString "_law_script"),(Str.ofString "_law_at"),(Str.ofString "_law_end")],3,
 [.ret (.comp (.call 14 [(.item (.var 1) (.var 0)),(.var 0)]) (.bi .range2 [(.var 1),(.bi .min2 [(.var 2),(.bi .len [(.var 0)])])]))]⟩
noncomputable def b_l_sign_by_0:List St:=[.ret (.item (.var 1) (.bin .mod (.var 0) (.lit (.int 90))))]
noncomputable def b_l_sign_by_1:List St:=((.assign 1 (.bin .add (.var 1) (.lit (.str [97,98,99,100,101,102,103,104,105,106,107,108,109,110,111,112,113,114,115,116,117,118,119,120,121,122,123,124,125,126]))))::b_l_sign_by_0)
noncomputable def d_l_sign_by:Def:=⟨[(Str.ofString "_law_cell"),(Str.ofString "_law_some")],1,
 ((.assign 1 (.lit (.str [33,34,35,36,38,39,42,43,44,45,46,47,48,49,50,51,52,53,54,55,56,57,58,60,61,62,63,64,65,66,67,68,69,70,71,72,73,74,75,76,77,78,79,80,81,82,83,84,85,86,87,88,89,90,91,92,93,94,95,96])))::b_l_sign_by_1)⟩
noncomputable def b_l_word_by_0:List St:=[.ret (.item (.list [(.var 6),(.lit (.str [116]))]) (.bi .int [(.cmp .eq (.var 6) (.lit (.str [116,101,108,108])))]))]
noncomputable def b_l_word_by_1:List St:=((.assign 6 (.bin .add (.call 17 [(.bin .add (.var 0) (.var 1))]) (.slice (.var 2) (.var 1) (.bin .add (.var 1) (.bin .mod (.bin .add (.var 3) (.var 1)) (.lit (.int 8)))))))::b_l_word_by_0)
noncomputable def b_l_word_by_2:List St:=((.ite (.cmp .eq (.var 5) (.lit (.int 1)))
  [.ret (.bin .add (.bin .add (.slice (.var 2) (.lit .none) (.var 4)) (.call 17 [(.bin .add (.var 0) (.var 1))])) (.slice (.var 2) (.bin .add (.var 4) (.lit (.int 1))) (.var 3)))]
  [])::b_l_word_by_1)
noncomputable def b_l_word_by_3:List St:=((.ite (.and (.cmp .eq (.var 5) (.lit (.int 1))) (.cmp .eq (.bin .add (.bin .add (.slice (.var 2) (.lit .none) (.var 4)) (.call 17 [(.bin .add (.var 0) (.var 1))])) (.slice (.var 2) (.bin .add (.var 4) (.lit (.int 1))) (.var 3))) (.lit (.str [116,101,108,108]))))
  [.ret (.bin .add (.bin .add (.slice (.var 2) (.lit .none) (.var 4)) (.call 17 [(.bin .add (.var 0) (.lit (.int 8)))])) (.slice (.var 2) (.bin .add (.var 4) (.lit (.int 1))) (.var 3)))]
  [])::b_l_word_by_2)
noncomputable def b_l_word_by_4:List St:=((.ite (.cmp .eq (.var 5) (.lit (.int 0)))
  [.ret (.slice (.var 2) (.lit .none) (.bin .add (.var 1) (.lit (.int 1))))]
  [])::b_l_word_by_3)
noncomputable def b_l_word_by_5:List St:=((.assign 5 (.bin .mod (.bin .fdiv (.var 0) (.lit (.int 540))) (.lit (.int 3))))::b_l_word_by_4)
noncomputable def b_l_word_by_6:List St:=((.assign 4 (.bin .mod (.bin .fdiv (.var 0) (.lit (.int 1620))) (.var 3)))::b_l_word_by_5)
noncomputable def b_l_word_by_7:List St:=((.assign 3 (.item (.list [(.lit (.int 1)),(.lit (.int 1)),(.lit (.int 2)),(.lit (.int 3)),(.lit (.int 5)),(.lit (.int 8))]) (.bin .mod (.bin .fdiv (.var 0) (.lit (.int 90))) (.lit (.int 6)))))::b_l_word_by_6)
noncomputable def b_l_word_by_8:List St:=((.ite (.cmp .eq (.slice (.var 2) (.lit .none) (.lit (.int 4))) (.lit (.str [116,101,108,108])))
  [.assign 2 (.bin .add (.bin .add (.slice (.var 2) (.lit .none) (.lit (.int 3))) (.lit (.str [109]))) (.slice (.var 2) (.lit (.int 4)) (.lit .none)))]
  [])::b_l_word_by_7)
noncomputable def d_l_word_by:Def:=⟨[(Str.ofString "_law_cell"),(Str.ofString "_law_k"),(Str.ofString "_law_base"),(Str.ofString "_law_size"),(Str.ofString "_law_at"),(Str.ofString "_law_way"),(Str.ofString "_law_word")],2,
 ((.assign 2 (.meth .join (.lit (.str [])) [(.comp (.call 17 [(.bin .mod (.bin .mul (.bin .add (.bin .fdiv (.var 1) (.lit (.int 12960))) (.bin .mul (.var 0) (.lit (.int 977)))) (.lit (.int 48271))) (.lit (.int 7919)))]) (.bi .range1 [(.lit (.int 8))]))]))::b_l_word_by_8)⟩
noncomputable def b_l_words_by_0:List St:=[.ret (.var 1)]
noncomputable def b_l_words_by_1:List St:=[.ite (.cmp .notin (.var 4) (.var 1))
   [.setItem (.var 1) (.bin .mod (.bin .add (.bin .fdiv (.var 0) (.lit (.int 224))) (.bin .mul (.lit (.int 5)) (.var 3))) (.lit (.int 8))) (.var 4)]
   []]
noncomputable def b_l_words_by_2:List St:=((.assign 4 (.item (.var 2) (.bin .mod (.bin .add (.bin .fdiv (.var 0) (.lit (.int 28))) (.bin .mul (.lit (.int 3)) (.var 3))) (.lit (.int 8)))))::b_l_words_by_1)
noncomputable def b_l_words_by_3:List St:=((.forS 3 (.bi .range1 [(.bin .mul (.lit (.int 2)) (.bi .int [(.cmp .eq (.bin .mod (.bin .fdiv (.var 0) (.lit (.int 7))) (.lit (.int 4))) (.lit (.int 1)))]))])
  b_l_words_by_2)::b_l_words_by_0)
noncomputable def b_l_words_by_4:List St:=((.assign 2 (.list [(.lit (.str [108,101,102,116])),(.lit (.str [114,105,103,104,116])),(.lit (.str [110,111,110,101])),(.lit (.str [98,101,102,111,114,101])),(.lit (.str [98,101,104,105,110,100])),(.lit (.str [116,101,108,108,115])),(.lit (.str [54])),(.lit (.str [76,101,102,116]))]))::b_l_words_by_3)
noncomputable def d_l_words_by:Def:=⟨[(Str.ofString "_law_cell"),(Str.ofString "_law_words"),(Str.ofString "_law_some"),(Str.ofString "_law_k"),(Str.ofString "_law_word")],1,
 ((.assign 1 (.comp (.call 18 [(.var 1),(.var 0)]) (.bi .range1 [(.lit (.int 8))])))::b_l_words_by_4)⟩
noncomputable def b_l_role_0:List St:=[.ret (.lit .none)]
noncomputable def b_l_role_1:List St:=[.ite (.and (.cmp .eq (.item (.var 3) (.lit (.int 3))) (.var 1)) (.cmp .eq (.cmp .eq (.item (.var 3) (.lit (.int 1))) (.lit (.str [98,101,102,111,114,101]))) (.var 2)))
   [.ret (.var 3)]
   []]
noncomputable def d_l_role:Def:=⟨[(Str.ofString "_law_table"),(Str.ofString "_law_word"),(Str.ofString "_law_ahead"),(Str.ofString "_law_row")],3,
 ((.forS 3 (.var 0)
  b_l_role_1)::b_l_role_0)⟩
noncomputable def b_l_clash_0:List St:=[.ret (.cmp .isnot (.call 20 [(.var 0),(.item (.var 1) (.lit (.int 3))),(.cmp .eq (.item (.var 1) (.lit (.int 1))) (.lit (.str [98,101,102,111,114,101])))]) (.lit .none))]
noncomputable def b_l_clash_1:List St:=[.ite (.and (.cmp .eq (.item (.var 2) (.lit (.int 2))) (.item (.var 1) (.lit (.int 2)))) (.cmp .ne (.item (.var 2) (.lit (.int 1))) (.item (.var 1) (.lit (.int 1)))))
   [.ret (.lit (.bool true))]
   []]
noncomputable def d_l_clash:Def:=⟨[(Str.ofString "_law_table"),(Str.ofString "_law_telling"),(Str.ofString "_law_row")],2,
 ((.forS 2 (.var 0)
  b_l_clash_1)::b_l_clash_0)⟩
noncomputable def b_l_telling_by_0:List St:=[.ret (.tup [(.lit (.str [116,101,108,108])),(.var 2),(.var 3),(.item (.var 1) (.bin .mod (.bin .fdiv (.var 0) (.lit (.int 600))) (.lit (.int 6))))])]
noncomputable def b_l_telling_by_1:List St:=((.ite (.cmp .gt (.bin .mod (.bin .fdiv (.var 0) (.lit (.int 5))) (.lit (.int 4))) (.lit (.int 0)))
  [.assign 3 (.bin .add (.lit (.int 1)) (.bin .mod (.bin .fdiv (.var 0) (.lit (.int 20))) (.lit (.int 6))))]
  [])::b_l_telling_by_0)
noncomputable def b_l_telling_by_2:List St:=((.assign 3 (.bin .add (.lit (.int 1)) (.bin .mod (.bin .fdiv (.var 0) (.lit (.int 20))) (.lit (.int 30)))))::b_l_telling_by_1)
noncomputable def d_l_telling_by:Def:=⟨[(Str.ofString "_law_cell"),(Str.ofString "_law_words"),(Str.ofString "_law_kind"),(Str.ofString "_law_power")],2,
 ((.assign 2 (.item (.list [(.lit (.str [108,101,102,116])),(.lit (.str [114,105,103,104,116])),(.lit (.str [110,111,110,101])),(.lit (.str [98,101,102,111,114,101])),(.lit (.str [98,101,104,105,110,100]))]) (.bin .mod (.var 0) (.lit (.int 5)))))::b_l_telling_by_2)⟩
noncomputable def b_l_name_by_0:List St:=[.ret (.item (.var 2) (.bin .add (.lit (.int 6)) (.bin .mod (.var 1) (.lit (.int 2)))))]
noncomputable def b_l_name_by_1:List St:=[.ite (.and (.cmp .is (.call 20 [(.var 0),(.var 4),(.lit (.bool true))]) (.lit .none)) (.cmp .is (.call 20 [(.var 0),(.var 4),(.lit (.bool false))]) (.lit .none)))
   [.ret (.var 4)]
   []]
noncomputable def b_l_name_by_2:List St:=((.assign 4 (.item (.var 2) (.bin .mod (.bin .add (.var 1) (.var 3)) (.lit (.int 8)))))::b_l_name_by_1)
noncomputable def d_l_name_by:Def:=⟨[(Str.ofString "_law_table"),(Str.ofString "_law_cell"),(Str.ofString "_law_words"),(Str.ofString "_law_k"),(Str.ofString "_law_word")],3,
 ((.forS 3 (.bi .range1 [(.lit (.int 6))])
  b_l_name_by_2)::b_l_name_by_0)⟩
noncomputable def b_l_grown_by_0:List St:=[.expr (.meth .append (.var 1) [(.tup [(.lit (.str [98,101,116,119,101,101,110])),(.item (.var 4) (.lit (.int 3))),(.var 6),(.var 5)])])]
noncomputable def b_l_grown_by_1:List St:=((.assign 6 (.meth .pop (.var 1) []))::b_l_grown_by_0)
noncomputable def b_l_grown_by_2:List St:=((.assign 5 (.meth .pop (.var 1) []))::b_l_grown_by_1)
noncomputable def b_l_grown_by_3:List St:=((.ite (.cmp .lt (.bi .len [(.var 1)]) (.lit (.int 2)))
  [.expr (.meth .append (.var 1) [(.call 23 [(.var 0),(.bin .fdiv (.var 2) (.lit (.int 7))),(.var 3)])])]
  [])::b_l_grown_by_2)
noncomputable def b_l_grown_by_4:List St:=[.ret (.lit .none)]
noncomputable def b_l_grown_by_5:List St:=((.ite (.cmp .inn (.item (.var 4) (.lit (.int 1))) (.list [(.lit (.str [98,101,102,111,114,101])),(.lit (.str [98,101,104,105,110,100]))]))
  ((.expr (.meth .append (.var 1) [(.tup [(.item (.var 4) (.lit (.int 1))),(.item (.var 4) (.lit (.int 3))),(.meth .pop (.var 1) [])])]))::b_l_grown_by_4)
  [])::b_l_grown_by_3)
noncomputable def d_l_grown_by:Def:=⟨[(Str.ofString "_law_table"),(Str.ofString "_law_trees_here"),(Str.ofString "_law_cell"),(Str.ofString "_law_words"),(Str.ofString "_law_row"),(Str.ofString "_law_right"),(Str.ofString "_law_left")],4,
 ((.assign 4 (.item (.var 0) (.bin .mod (.bin .fdiv (.var 2) (.lit (.int 4))) (.bi .len [(.var 0)]))))::b_l_grown_by_5)⟩
noncomputable def b_l_tree_by_0:List St:=[.ret (.item (.var 3) (.neg (.lit (.int 1))))]
noncomputable def b_l_tree_by_1:List St:=[.expr (.meth .append (.var 3) [(.tup [(.lit (.str [98,101,116,119,101,101,110])),(.item (.var 5) (.lit (.int 3))),(.var 7),(.var 6)])])]
noncomputable def b_l_tree_by_2:List St:=((.assign 7 (.meth .pop (.var 3) []))::b_l_tree_by_1)
noncomputable def b_l_tree_by_3:List St:=((.assign 6 (.meth .pop (.var 3) []))::b_l_tree_by_2)
noncomputable def b_l_tree_by_4:List St:=[.whileS (.and (.cmp .inn (.item (.var 5) (.lit (.int 1))) (.list [(.lit (.str [108,101,102,116])),(.lit (.str [114,105,103,104,116])),(.lit (.str [110,111,110,101]))])) (.cmp .gt (.bi .len [(.var 3)]) (.lit (.int 1))))
   b_l_tree_by_3]
noncomputable def b_l_tree_by_5:List St:=((.forS 5 (.var 0)
  b_l_tree_by_4)::b_l_tree_by_0)
noncomputable def b_l_tree_by_6:List St:=[.ite (.or (.cmp .eq (.bin .mod (.var 4) (.lit (.int 4))) (.lit (.int 0))) (.cmp .eq (.var 0) (.list [])))
   [.expr (.meth .append (.var 3) [(.call 23 [(.var 0),(.bin .fdiv (.var 4) (.lit (.int 4))),(.var 2)])])]
   [.expr (.call 24 [(.var 0),(.var 3),(.var 4),(.var 2)])]]
noncomputable def b_l_tree_by_7:List St:=((.forS 4 (.var 1)
  b_l_tree_by_6)::b_l_tree_by_5)
noncomputable def d_l_tree_by:Def:=⟨[(Str.ofString "_law_table"),(Str.ofString "_law_cells_here"),(Str.ofString "_law_words"),(Str.ofString "_law_trees_here"),(Str.ofString "_law_cell"),(Str.ofString "_law_row"),(Str.ofString "_law_right"),(Str.ofString "_law_left")],3,
 ((.assign 3 (.list [(.item (.var 2) (.lit (.int 7)))]))::b_l_tree_by_7)⟩
noncomputable def b_l_strength_0:List St:=[.ret (.item (.call 20 [(.var 0),(.item (.var 1) (.lit (.int 1))),(.cmp .eq (.item (.var 1) (.lit (.int 0))) (.lit (.str [98,101,102,111,114,101])))]) (.lit (.int 2)))]
noncomputable def d_l_strength:Def:=⟨[(Str.ofString "_law_table"),(Str.ofString "_law_tree")],2,
 ((.ite (.bi .isinst [(.var 1),(.lit (.cls 10))])
  [.ret (.lit (.int 31))]
  [])::b_l_strength_0)⟩
noncomputable def b_l_enough_0:List St:=[.ret (.cmp .gt (.var 2) (.item (.var 0) (.lit (.int 2))))]
noncomputable def d_l_enough:Def:=⟨[(Str.ofString "_law_telling"),(Str.ofString "_law_place"),(Str.ofString "_law_power")],3,
 ((.ite (.cmp .eq (.var 2) (.item (.var 0) (.lit (.int 2))))
  [.ret (.or (.cmp .inn (.item (.var 0) (.lit (.int 1))) (.list [(.lit (.str [98,101,102,111,114,101])),(.lit (.str [98,101,104,105,110,100]))])) (.cmp .eq (.item (.var 0) (.lit (.int 1))) (.item (.list [(.lit (.str [108,101,102,116])),(.lit (.str [114,105,103,104,116]))]) (.var 1))))]
  [])::b_l_enough_0)⟩
noncomputable def b_l_operand_0:List St:=[.ret (.bin .add (.bin .add (.list [(.lit (.str [40]))]) (.var 5)) (.list [(.lit (.str [41]))]))]
noncomputable def b_l_operand_1:List St:=((.ite (.call 27 [(.var 1),(.var 2),(.call 26 [(.var 0),(.var 3)])])
  [.ret (.var 5)]
  [])::b_l_operand_0)
noncomputable def d_l_operand:Def:=⟨[(Str.ofString "_law_table"),(Str.ofString "_law_telling"),(Str.ofString "_law_place"),(Str.ofString "_law_tree"),(Str.ofString "_law_more"),(Str.ofString "_law_row")],5,
 ((.assign 5 (.call 29 [(.var 0),(.var 3),(.var 4)]))::b_l_operand_1)⟩
noncomputable def b_l_row_by_0:List St:=[.ret (.var 3)]
noncomputable def b_l_row_by_1:List St:=((.ite (.and (.cmp .gt (.var 2) (.lit (.int 0))) (.cmp .eq (.bin .mod (.bin .add (.bin .mul (.bi .len [(.var 3)]) (.lit (.int 7))) (.var 2)) (.lit (.int 5))) (.lit (.int 0))))
  [.assign 3 (.bin .add (.bin .add (.list [(.lit (.str [40]))]) (.var 3)) (.list [(.lit (.str [41]))]))]
  [])::b_l_row_by_0)
noncomputable def b_l_row_by_2:List St:=[.ite (.cmp .eq (.item (.var 1) (.lit (.int 0))) (.lit (.str [98,101,116,119,101,101,110])))
   [.assign 3 (.bin .add (.var 3) (.call 28 [(.var 0),(.var 4),(.lit (.int 1)),(.item (.var 1) (.lit (.int 3))),(.var 2)]))]
   []]
noncomputable def b_l_row_by_3:List St:=((.ite (.cmp .eq (.item (.var 1) (.lit (.int 0))) (.lit (.str [98,101,102,111,114,101])))
   [.assign 3 (.bin .add (.list [(.item (.var 1) (.lit (.int 1)))]) (.var 3))]
   [.assign 3 (.bin .add (.var 3) (.list [(.item (.var 1) (.lit (.int 1)))]))])::b_l_row_by_2)
noncomputable def b_l_row_by_4:List St:=((.assign 3 (.call 28 [(.var 0),(.var 4),(.lit (.int 0)),(.item (.var 1) (.lit (.int 2))),(.var 2)]))::b_l_row_by_3)
noncomputable def d_l_row_by:Def:=⟨[(Str.ofString "_law_table"),(Str.ofString "_law_tree"),(Str.ofString "_law_more"),(Str.ofString "_law_row"),(Str.ofString "_law_telling")],3,
 ((.ite (.bi .isinst [(.var 1),(.lit (.cls 10))])
  [.assign 3 (.list [(.var 1)])]
  ((.assign 4 (.call 20 [(.var 0),(.item (.var 1) (.lit (.int 1))),(.cmp .eq (.item (.var 1) (.lit (.int 0))) (.lit (.str [98,101,102,111,114,101])))]))::b_l_row_by_4))::b_l_row_by_1)⟩
noncomputable def b_l_parts_by_0:List St:=[.ret (.var 3)]
noncomputable def b_l_parts_by_1:List St:=((.ite (.and (.cmp .ne (.var 0) (.list [])) (.and (.cmp .eq (.bin .mod (.item (.var 0) (.lit (.int 0))) (.lit (.int 5))) (.lit (.int 1))) (.not (.call 31 [(.item (.var 3) (.neg (.lit (.int 1))))]))))
  [.assign 3 (.bin .add (.var 3) (.bin .mul (.list [(.item (.var 3) (.neg (.lit (.int 1))))]) (.lit (.int 30))))]
  [])::b_l_parts_by_0)
noncomputable def b_l_parts_by_2:List St:=[.expr (.meth .append (.var 3) [(.var 5)])]
noncomputable def b_l_parts_by_3:List St:=[.expr (.meth .append (.var 3) [(.call 25 [(.var 2),(.comp (.call 14 [(.var 5),(.var 0)]) (.bi .range2 [(.lit (.int 1)),(.bin .add (.var 6) (.lit (.int 1)))])),(.var 1)])])]
noncomputable def b_l_parts_by_4:List St:=[.ite (.and (.cmp .eq (.bin .mod (.var 4) (.lit (.int 3))) (.lit (.int 0))) (.not (.call 21 [(.var 2),(.var 5)])))
   ((.assign 2 (.bin .add (.var 2) (.list [(.var 5)])))::b_l_parts_by_2)
   ((.assign 6 (.item (.list [(.bin .mod (.bin .fdiv (.var 4) (.lit (.int 24))) (.lit (.int 6))),(.lit (.int 12))]) (.bi .int [(.cmp .eq (.bin .mod (.bin .fdiv (.var 4) (.lit (.int 3))) (.lit (.int 8))) (.lit (.int 1)))])))::b_l_parts_by_3)]
noncomputable def b_l_parts_by_5:List St:=((.assign 5 (.call 22 [(.bin .fdiv (.var 4) (.lit (.int 24))),(.var 1)]))::b_l_parts_by_4)
noncomputable def b_l_parts_by_6:List St:=((.forS 4 (.var 0)
  b_l_parts_by_5)::b_l_parts_by_1)
noncomputable def b_l_parts_by_7:List St:=((.assign 3 (.list []))::b_l_parts_by_6)
noncomputable def d_l_parts_by:Def:=⟨[(Str.ofString "_law_cells_here"),(Str.ofString "_law_words"),(Str.ofString "_law_table"),(Str.ofString "_law_parts"),(Str.ofString "_law_cell"),(Str.ofString "_law_telling"),(Str.ofString "_law_size")],2,
 ((.assign 2 (.list []))::b_l_parts_by_7)⟩
noncomputable def d_l_is_telling:Def:=⟨[(Str.ofString "_law_part")],1,
 [.ret (.and (.bi .isinst [(.var 0),(.lit (.cls 13))]) (.cmp .eq (.item (.var 0) (.lit (.int 0))) (.lit (.str [116,101,108,108]))))]⟩
noncomputable def b_l_rows_by_0:List St:=[.ret (.var 3)]
noncomputable def b_l_rows_by_1:List St:=[.expr (.meth .append (.var 3) [(.list [(.lit (.str [116,101,108,108])),(.item (.var 4) (.lit (.int 1))),(.bi .str [(.item (.var 4) (.lit (.int 2)))]),(.item (.var 4) (.lit (.int 3)))])])]
noncomputable def b_l_rows_by_2:List St:=[.ite (.call 31 [(.var 4)])
   ((.assign 2 (.bin .add (.var 2) (.list [(.var 4)])))::b_l_rows_by_1)
   [.expr (.meth .append (.var 3) [(.call 29 [(.var 2),(.var 4),(.var 1)])])]]
noncomputable def b_l_rows_by_3:List St:=((.forS 4 (.var 0)
  b_l_rows_by_2)::b_l_rows_by_0)
noncomputable def b_l_rows_by_4:List St:=((.assign 3 (.list []))::b_l_rows_by_3)
noncomputable def d_l_rows_by:Def:=⟨[(Str.ofString "_law_parts"),(Str.ofString "_law_more"),(Str.ofString "_law_table"),(Str.ofString "_law_rows"),(Str.ofString "_law_part")],2,
 ((.assign 2 (.list []))::b_l_rows_by_4)⟩
noncomputable def b_l_alike_0:List St:=[.ret (.lit (.bool true))]
noncomputable def b_l_alike_1:List St:=[.assign 2 (.bin .add (.var 2) (.zipl (.item (.var 3) (.lit (.int 0))) (.item (.var 3) (.lit (.int 1)))))]
noncomputable def b_l_alike_2:List St:=[.ite (.bi .isinst [(.item (.var 3) (.lit (.int 1))),(.lit (.cls 10))])
   [.ite (.or (.not (.bi .isinst [(.item (.var 3) (.lit (.int 0))),(.lit (.cls 10))])) (.cmp .ne (.item (.var 3) (.lit (.int 0))) (.item (.var 3) (.lit (.int 1)))))
    [.ret (.lit (.bool false))]
    []]
   [.ite (.bi .isinst [(.item (.var 3) (.lit (.int 1))),(.lit (.cls 13))])
    ((.ite (.or (.not (.bi .isinst [(.item (.var 3) (.lit (.int 0))),(.lit (.cls 13))])) (.cmp .ne (.bi .len [(.item (.var 3) (.lit (.int 0)))]) (.bi .len [(.item (.var 3) (.lit (.int 1)))])))
     [.ret (.lit (.bool false))]
     [])::b_l_alike_1)
    [.ite (.or (.not (.bi .isinst [(.item (.var 3) (.lit (.int 0))),(.lit (.cls 11))])) (.or (.bi .isinst [(.item (.var 3) (.lit (.int 0))),(.lit (.cls 12))]) (.cmp .ne (.item (.var 3) (.lit (.int 0))) (.item (.var 3) (.lit (.int 1))))))
     [.ret (.lit (.bool false))]
     []]]]
noncomputable def b_l_alike_3:List St:=((.assign 3 (.meth .pop (.var 2) []))::b_l_alike_2)
noncomputable def b_l_alike_4:List St:=((.whileS (.cmp .ne (.var 2) (.list []))
  b_l_alike_3)::b_l_alike_0)
noncomputable def d_l_alike:Def:=⟨[(Str.ofString "_law_found"),(Str.ofString "_law_due"),(Str.ofString "_law_rest"),(Str.ofString "_law_pair")],2,
 ((.assign 2 (.list [(.tup [(.var 0),(.var 1)])]))::b_l_alike_4)⟩
noncomputable def b_l_list_0:List St:=[.ret (.lit (.bool true))]
noncomputable def b_l_list_1:List St:=[.ite (.not (.call 33 [(.item (.var 0) (.var 2)),(.item (.var 1) (.var 2))]))
   [.ret (.lit (.bool false))]
   []]
noncomputable def b_l_list_2:List St:=((.forS 2 (.bi .range1 [(.bi .len [(.var 1)])])
  b_l_list_1)::b_l_list_0)
noncomputable def d_l_list:Def:=⟨[(Str.ofString "_law_found"),(Str.ofString "_law_due"),(Str.ofString "_law_k")],2,
 ((.ite (.or (.not (.bi .isinst [(.var 0),(.lit (.cls 14))])) (.cmp .ne (.bi .len [(.var 0)]) (.bi .len [(.var 1)])))
  [.ret (.lit (.bool false))]
  [])::b_l_list_2)⟩
noncomputable def b_l_text_0:List St:=[.ret (.var 3)]
noncomputable def b_l_text_1:List St:=[.assign 3 (.bin .add (.var 3) (.item (.list [(.lit (.str [32,59,10])),(.lit (.str [59])),(.lit (.str [59,32])),(.lit (.str [10,59]))]) (.bin .mod (.bin .fdiv (.var 1) (.lit (.int 10))) (.lit (.int 4)))))]
noncomputable def b_l_text_2:List St:=[.assign 3 (.bin .add (.var 3) (.item (.var 4) (.var 5)))]
noncomputable def b_l_text_3:List St:=((.ite (.and (.cmp .gt (.var 5) (.lit (.int 0))) (.not (.var 6)))
    [.assign 3 (.bin .add (.var 3) (.var 2))]
    [])::b_l_text_2)
noncomputable def b_l_text_4:List St:=((.assign 6 (.and (.cmp .eq (.bin .mod (.bin .fdiv (.var 1) (.lit (.int 5))) (.lit (.int 2))) (.lit (.int 0))) (.or (.cmp .inn (.item (.var 4) (.var 5)) (.lit (.str [40,41]))) (.and (.cmp .gt (.var 5) (.lit (.int 0))) (.cmp .inn (.item (.var 4) (.bin .sub (.var 5) (.lit (.int 1)))) (.lit (.str [40,41])))))))::b_l_text_3)
noncomputable def b_l_text_5:List St:=((.forS 5 (.bi .range1 [(.bi .len [(.var 4)])])
   b_l_text_4)::b_l_text_1)
noncomputable def b_l_text_6:List St:=((.forS 4 (.var 0)
  b_l_text_5)::b_l_text_0)
noncomputable def b_l_text_7:List St:=((.assign 3 (.lit (.str [])))::b_l_text_6)
noncomputable def d_l_text:Def:=⟨[(Str.ofString "_law_rows"),(Str.ofString "_law_cell"),(Str.ofString "_law_gap"),(Str.ofString "_law_text_here"),(Str.ofString "_law_row"),(Str.ofString "_law_k"),(Str.ofString "_law_tight")],2,
 ((.assign 2 (.item (.list [(.lit (.str [32])),(.lit (.str [10])),(.lit (.str [32,32])),(.lit (.str [32,10,32])),(.lit (.str [10,10]))]) (.bin .mod (.var 1) (.lit (.int 5)))))::b_l_text_7)⟩
noncomputable def b_l_held_0:List St:=[.ret (.lit (.bool false))]
noncomputable def b_l_held_1:List St:=[.ite (.cmp .eq (.var 1) (.lit (.int 0)))
   [.ret (.and (.cmp .gt (.var 2) (.lit (.int 0))) (.cmp .eq (.var 2) (.bin .sub (.bi .len [(.var 0)]) (.lit (.int 1)))))]
   []]
noncomputable def b_l_held_2:List St:=((.assign 1 (.bin .sub (.bin .add (.var 1) (.bi .int [(.cmp .eq (.item (.var 0) (.var 2)) (.lit (.str [40])))])) (.bi .int [(.cmp .eq (.item (.var 0) (.var 2)) (.lit (.str [41])))])))::b_l_held_1)
noncomputable def b_l_held_3:List St:=((.forS 2 (.bi .range1 [(.bi .len [(.var 0)])])
  b_l_held_2)::b_l_held_0)
noncomputable def b_l_held_4:List St:=((.assign 1 (.lit (.int 0)))::b_l_held_3)
noncomputable def d_l_held:Def:=⟨[(Str.ofString "_law_row"),(Str.ofString "_law_deep"),(Str.ofString "_law_k")],1,
 ((.ite (.or (.cmp .eq (.var 0) (.list [])) (.cmp .ne (.item (.var 0) (.lit (.int 0))) (.lit (.str [40]))))
  [.ret (.lit (.bool false))]
  [])::b_l_held_4)⟩
noncomputable def b_l_fit_0:List St:=[.ret (.compIf (.var 0) (.var 4) (.call 27 [(.var 2),(.var 3),(.call 26 [(.var 1),(.var 0)])]))]
noncomputable def b_l_fit_1:List St:=((.ite (.call 36 [(.var 3)])
  [.ret (.var 4)]
  [])::b_l_fit_0)
noncomputable def d_l_fit:Def:=⟨[(Str.ofString "_law_table"),(Str.ofString "_law_telling"),(Str.ofString "_law_place"),(Str.ofString "_law_row"),(Str.ofString "_law_found")],4,
 ((.assign 4 (.call 39 [(.var 0),(.var 3)]))::b_l_fit_1)⟩
noncomputable def b_l_by_root_0:List St:=[.ret (.comp (.tup [(.lit (.str [98,101,116,119,101,101,110])),(.item (.var 2) (.var 3)),(.item (.var 6) (.lit (.int 0))),(.var 0)]) (.call 37 [(.var 0),(.var 4),(.lit (.int 1)),(.slice (.var 1) (.bin .add (.var 2) (.lit (.int 1))) (.lit .none))]))]
noncomputable def b_l_by_root_1:List St:=((.ite (.or (.cmp .eq (.item (.var 4) (.lit (.int 1))) (.lit (.str [98,101,104,105,110,100]))) (.cmp .eq (.var 5) (.list [])))
  [.ret (.list [])]
  [])::b_l_by_root_0)
noncomputable def b_l_by_root_2:List St:=((.ite (.and (.cmp .eq (.item (.var 4) (.lit (.int 1))) (.lit (.str [98,101,104,105,110,100]))) (.cmp .eq (.var 2) (.bin .sub (.bi .len [(.var 1)]) (.lit (.int 1)))))
  [.ret (.comp (.tup [(.lit (.str [98,101,104,105,110,100])),(.item (.var 2) (.var 3)),(.var 0)]) (.var 5))]
  [])::b_l_by_root_1)
noncomputable def b_l_by_root_3:List St:=((.assign 5 (.call 37 [(.var 0),(.var 4),(.lit (.int 0)),(.slice (.var 1) (.lit .none) (.var 2))]))::b_l_by_root_2)
noncomputable def b_l_by_root_4:List St:=((.ite (.or (.cmp .eq (.var 2) (.lit (.int 0))) (.cmp .is (.var 4) (.lit .none)))
  [.ret (.list [])]
  [])::b_l_by_root_3)
noncomputable def b_l_by_root_5:List St:=((.ite (.and (.cmp .eq (.var 2) (.lit (.int 0))) (.cmp .isnot (.var 3) (.lit .none)))
  [.ret (.comp (.tup [(.lit (.str [98,101,102,111,114,101])),(.item (.var 2) (.var 3)),(.var 0)]) (.call 37 [(.var 0),(.var 3),(.lit (.int 0)),(.slice (.var 1) (.lit (.int 1)) (.lit .none))]))]
  [])::b_l_by_root_4)
noncomputable def b_l_by_root_6:List St:=((.assign 4 (.call 20 [(.var 0),(.item (.var 1) (.var 2)),(.lit (.bool false))]))::b_l_by_root_5)
noncomputable def d_l_by_root:Def:=⟨[(Str.ofString "_law_table"),(Str.ofString "_law_row"),(Str.ofString "_law_k"),(Str.ofString "_law_ahead"),(Str.ofString "_law_behind"),(Str.ofString "_law_left")],3,
 ((.assign 3 (.call 20 [(.var 0),(.item (.var 1) (.var 2)),(.lit (.bool true))]))::b_l_by_root_6)⟩
noncomputable def b_l_trees_0:List St:=[.ret (.var 3)]
noncomputable def b_l_trees_1:List St:=[.ite (.and (.cmp .eq (.var 4) (.lit (.int 0))) (.cmp .ne (.item (.var 1) (.var 5)) (.lit (.str [41]))))
   [.assign 3 (.bin .add (.var 3) (.call 38 [(.var 0),(.var 1),(.var 5)]))]
   []]
noncomputable def b_l_trees_2:List St:=((.assign 4 (.bin .sub (.bin .add (.var 4) (.bi .int [(.cmp .eq (.item (.var 1) (.var 5)) (.lit (.str [40])))])) (.bi .int [(.cmp .eq (.item (.var 1) (.var 5)) (.lit (.str [41])))])))::b_l_trees_1)
noncomputable def b_l_trees_3:List St:=((.forS 5 (.bi .range1 [(.bi .len [(.var 1)])])
  b_l_trees_2)::b_l_trees_0)
noncomputable def b_l_trees_4:List St:=((.assign 4 (.lit (.int 0)))::b_l_trees_3)
noncomputable def b_l_trees_5:List St:=((.assign 3 (.list []))::b_l_trees_4)
noncomputable def b_l_trees_6:List St:=[.ret (.compIf (.var 0) (.var 1) (.and (.not (.var 3)) (.cmp .notin (.var 0) (.list [(.lit (.str [40])),(.lit (.str [41])),(.lit (.str [59])),(.lit (.str [116,101,108,108]))]))))]
noncomputable def b_l_trees_7:List St:=((.ite (.cmp .eq (.bi .len [(.var 1)]) (.lit (.int 1)))
  ((.assign 2 (.or (.cmp .isnot (.call 20 [(.var 0),(.item (.var 1) (.lit (.int 0))),(.lit (.bool true))]) (.lit .none)) (.cmp .isnot (.call 20 [(.var 0),(.item (.var 1) (.lit (.int 0))),(.lit (.bool false))]) (.lit .none))))::b_l_trees_6)
  [])::b_l_trees_5)
noncomputable def d_l_trees:Def:=⟨[(Str.ofString "_law_table"),(Str.ofString "_law_row"),(Str.ofString "_law_told"),(Str.ofString "_law_found"),(Str.ofString "_law_deep"),(Str.ofString "_law_k")],2,
 ((.ite (.call 36 [(.var 1)])
  [.ret (.call 39 [(.var 0),(.slice (.var 1) (.lit (.int 1)) (.neg (.lit (.int 1))))])]
  [])::b_l_trees_7)⟩
noncomputable def b_l_once_more_0:List St:=[.ret (.call 34 [(.call 13 [(.var 2)]),(.bin .add (.var 0) (.var 7))])]
noncomputable def b_l_once_more_1:List St:=((.ite (.cmp .eq (.var 7) (.list []))
  [.ret (.cmp .eq (.call 42 [(.var 2)]) (.lit (.int 1)))]
  [])::b_l_once_more_0)
noncomputable def b_l_once_more_2:List St:=((.assign 2 (.bin .add (.bin .add (.bin .add (.var 2) (.lit (.str [32]))) (.meth .join (.lit (.str [32])) [(.var 6)])) (.lit (.str [32,59]))))::b_l_once_more_1)
noncomputable def b_l_once_more_3:List St:=((.assign 7 (.call 39 [(.var 4),(.var 6)]))::b_l_once_more_2)
noncomputable def b_l_once_more_4:List St:=((.assign 6 (.item (.var 5) (.bin .mod (.var 3) (.bi .len [(.var 5)]))))::b_l_once_more_3)
noncomputable def b_l_once_more_5:List St:=((.ite (.cmp .eq (.var 5) (.list []))
  [.ret (.lit (.bool true))]
  [])::b_l_once_more_4)
noncomputable def b_l_once_more_6:List St:=((.assign 5 (.compIf (.var 0) (.var 1) (.and (.cmp .lt (.bi .len [(.var 0)]) (.lit (.int 10))) (.cmp .ne (.item (.var 0) (.lit (.int 0))) (.lit (.str [116,101,108,108]))))))::b_l_once_more_5)
noncomputable def d_l_once_more:Def:=⟨[(Str.ofString "_law_parts"),(Str.ofString "_law_rows"),(Str.ofString "_law_text_here"),(Str.ofString "_law_cell"),(Str.ofString "_law_table"),(Str.ofString "_law_short"),(Str.ofString "_law_row"),(Str.ofString "_law_due")],4,
 ((.assign 4 (.compIf (.var 0) (.var 0) (.call 31 [(.var 0)])))::b_l_once_more_6)⟩
noncomputable def b_l_wrong_0:List St:=[.ret (.item (.var 4) (.bin .mod (.var 0) (.lit (.int 10))))]
noncomputable def b_l_wrong_1:List St:=((.assign 4 (.bin .add (.var 4) (.list [(.tup [(.list [(.lit (.str [116,101,108,108])),(.item (.var 2) (.lit (.int 1))),(.bi .str [(.item (.var 2) (.lit (.int 2)))]),(.item (.var 2) (.lit (.int 3)))]),(.lit (.int 5))]),(.tup [(.list [(.lit (.str [116,101,108,108])),(.var 5),(.bi .str [(.item (.var 2) (.lit (.int 2)))]),(.item (.var 1) (.lit (.int 6)))]),(.lit (.int 5))])])))::b_l_wrong_0)
noncomputable def b_l_wrong_2:List St:=((.assign 5 (.item (.list [(.lit (.str [108,101,102,116])),(.lit (.str [114,105,103,104,116]))]) (.bi .int [(.cmp .eq (.item (.var 2) (.lit (.int 1))) (.lit (.str [108,101,102,116])))])))::b_l_wrong_1)
noncomputable def b_l_wrong_3:List St:=((.ite (.cmp .is (.var 2) (.lit .none))
  [.ret (.item (.var 4) (.bin .mod (.var 0) (.lit (.int 8))))]
  [])::b_l_wrong_2)
noncomputable def b_l_wrong_4:List St:=((.assign 4 (.bin .add (.var 4) (.list [(.tup [(.bin .add (.list [(.lit (.str [116,101,108,108])),(.lit (.str [108,101,102,116])),(.lit (.str [54]))]) (.bin .mul (.list [(.item (.var 1) (.lit (.int 0)))]) (.lit (.int 100)))),(.lit (.int 2))])])))::b_l_wrong_3)
noncomputable def b_l_wrong_5:List St:=((.assign 4 (.bin .add (.var 4) (.list [(.tup [(.list [(.lit (.str [116,101,108,108])),(.lit (.str [108,101,102,116])),(.lit (.str [55])),(.item (.var 1) (.lit (.int 6))),(.item (.var 1) (.lit (.int 6)))]),(.lit (.int 2))]),(.tup [(.bin .mul (.list [(.item (.var 1) (.lit (.int 7)))]) (.lit (.int 100))),(.lit (.int 3))]),(.tup [(.list [(.bin .add (.item (.var 1) (.lit (.int 6))) (.lit (.str [97,98,99,100,101,102,103,104])))]),(.lit (.int 4))])])))::b_l_wrong_4)
noncomputable def b_l_wrong_6:List St:=((.assign 4 (.list [(.tup [(.list []),(.lit (.int 1))]),(.tup [(.list [(.item (.var 1) (.lit (.int 6))),(.item (.var 1) (.lit (.int 7)))]),(.lit (.int 1))]),(.tup [(.list [(.lit (.str [40])),(.item (.var 1) (.lit (.int 6)))]),(.lit (.int 1))]),(.tup [(.list [(.lit (.str [116,101,108,108])),(.lit (.str [108,101,102,116])),(.var 3),(.item (.var 1) (.lit (.int 0)))]),(.lit (.int 2))])]))::b_l_wrong_5)
noncomputable def d_l_wrong:Def:=⟨[(Str.ofString "_law_cell"),(Str.ofString "_law_words"),(Str.ofString "_law_told"),(Str.ofString "_law_odd"),(Str.ofString "_law_some"),(Str.ofString "_law_other")],3,
 ((.assign 3 (.item (.list [(.lit (.str [48])),(.lit (.str [51,49])),(.lit (.str [48,54])),(.lit (.str [120])),(.lit (.str [48,48,55])),(.lit (.str [43,53])),(.lit (.str [49,46])),(.lit (.str [45,49]))]) (.bin .mod (.bin .fdiv (.var 0) (.lit (.int 10))) (.lit (.int 8)))))::b_l_wrong_6)⟩
noncomputable def b_l_refusal_0:List St:=[.ret (.lit (.int 0))]
noncomputable def d_l_refusal:Def:=⟨[(Str.ofString "_law_text_here")],1,
 ((.tryS [.expr (.call 13 [(.var 0)])]
  [.mk 4 none [.ret (.lit (.int 1))],
   .mk 2 none [.ret (.lit (.int 2))],
   .mk 6 none [.ret (.lit (.int 3))],
   .mk 1 none [.ret (.lit (.int 4))],
   .mk 3 none [.ret (.lit (.int 5))]])::b_l_refusal_0)⟩
noncomputable def b_l_alone_0:List St:=[.ret (.and (.cmp .eq (.var 1) (.lit (.int 1))) (.bi .isinst [(.var 0),(.lit (.cls 15))]))]
noncomputable def b_l_alone_1:List St:=((.assign 1 (.bin .add (.bin .add (.bin .add (.var 1) (.bi .int [(.bi .isinst [(.var 0),(.lit (.cls 4))])])) (.bi .int [(.bi .isinst [(.var 0),(.lit (.cls 5))])])) (.bi .int [(.bi .isinst [(.var 0),(.lit (.cls 6))])])))::b_l_alone_0)
noncomputable def d_l_alone:Def:=⟨[(Str.ofString "_law_e"),(Str.ofString "_law_many")],1,
 ((.assign 1 (.bin .add (.bin .add (.bi .int [(.bi .isinst [(.var 0),(.lit (.cls 1))])]) (.bi .int [(.bi .isinst [(.var 0),(.lit (.cls 2))])])) (.bi .int [(.bi .isinst [(.var 0),(.lit (.cls 3))])])))::b_l_alone_1)⟩
noncomputable def b_l_refused_by_any_0:List St:=[.ret (.lit (.bool false))]
noncomputable def d_l_refused_by_any:Def:=⟨[(Str.ofString "_law_text_here"),(Str.ofString "_law_e")],1,
 ((.tryS [.expr (.call 13 [(.var 0)])]
  [.mk 0 (some 1) [.ret (.call 43 [(.var 1)])]])::b_l_refused_by_any_0)⟩
noncomputable def b_law_0:List St:=[.ret (.and (.cmp .eq (.call 42 [(.var 5)]) (.var 13)) (.call 44 [(.var 5)]))]
noncomputable def b_law_1:List St:=((.assign 5 (.bin .add (.call 35 [(.var 3),(.bin .fdiv (.call 15 [(.var 0),(.lit (.int 1))]) (.lit (.int 3)))]) (.bin .mul (.var 6) (.bin .mod (.bin .fdiv (.call 15 [(.var 0),(.lit (.int 1))]) (.lit (.int 120))) (.lit (.int 2))))))::b_law_0)
noncomputable def b_law_2:List St:=((.ite (.cmp .eq (.item (.var 12) (.lit (.int 1))) (.lit (.int 4)))
  [.assign 13 (.lit (.int 4))]
  [])::b_law_1)
noncomputable def b_law_3:List St:=((.assign 13 (.item (.var 11) (.lit (.int 1))))::b_law_2)
noncomputable def b_law_4:List St:=((.assign 3 (.bin .add (.bin .add (.bin .add (.slice (.var 3) (.lit .none) (.var 9)) (.list [(.item (.var 11) (.lit (.int 0)))])) (.slice (.var 3) (.var 9) (.lit .none))) (.list [(.item (.var 12) (.lit (.int 0)))])))::b_law_3)
noncomputable def b_law_5:List St:=((.assign 12 (.call 41 [(.bin .fdiv (.var 4) (.lit (.int 288))),(.var 1),(.lit .none)]))::b_law_4)
noncomputable def b_law_6:List St:=((.assign 11 (.call 41 [(.bin .fdiv (.var 4) (.lit (.int 32))),(.var 1),(.item (.bin .add (.list [(.lit .none)]) (.var 10)) (.neg (.lit (.int 1))))]))::b_law_5)
noncomputable def b_law_7:List St:=((.assign 10 (.compIf (.var 0) (.slice (.var 2) (.lit .none) (.var 9)) (.call 31 [(.var 0)])))::b_law_6)
noncomputable def b_law_8:List St:=((.assign 9 (.bin .mod (.bin .fdiv (.var 4) (.lit (.int 2))) (.bin .add (.bi .len [(.var 2)]) (.lit (.int 1)))))::b_law_7)
noncomputable def b_law_9:List St:=[.ret (.call 34 [(.call 13 [(.var 5)]),(.var 2)])]
noncomputable def b_law_10:List St:=((.ite (.or (.not (.call 34 [(.var 7),(.var 2)])) (.not (.call 40 [(.var 2),(.var 3),(.var 5),(.bin .fdiv (.var 4) (.lit (.int 8)))])))
   [.ret (.lit (.bool false))]
   [])::b_law_9)
noncomputable def b_law_11:List St:=((.expr (.meth .append (.var 8) [(.lit (.str [109,111,114,101]))]))::b_law_10)
noncomputable def b_law_12:List St:=((.assign 8 (.call 13 [(.var 5)]))::b_law_11)
noncomputable def b_law_13:List St:=((.ite (.or (.not (.call 34 [(.var 7),(.var 2)])) (.cmp .ne (.call 42 [(.bin .add (.var 5) (.var 6))]) (.lit (.int 1))))
   [.ret (.lit (.bool false))]
   [])::b_law_12)
noncomputable def b_law_14:List St:=((.ite (.cmp .eq (.bin .mod (.var 4) (.lit (.int 2))) (.lit (.int 0)))
  ((.assign 7 (.call 13 [(.var 5)]))::b_law_13)
  [])::b_law_8)
noncomputable def b_law_15:List St:=((.assign 6 (.bin .add (.lit (.str [32])) (.item (.list [(.item (.var 1) (.lit (.int 6))),(.bin .add (.lit (.str [116,101,108,108,32,108,101,102,116,32,55,32])) (.item (.var 1) (.lit (.int 6)))),(.lit (.str [116,101,108,108])),(.lit (.str [40])),(.bin .mul (.bin .add (.item (.var 1) (.lit (.int 7))) (.lit (.str [32]))) (.lit (.int 100)))]) (.bin .mod (.bin .fdiv (.var 4) (.lit (.int 2))) (.lit (.int 5))))))::b_law_14)
noncomputable def b_law_16:List St:=((.ite (.cmp .eq (.var 3) (.list []))
  [.assign 5 (.item (.list [(.lit (.str [])),(.lit (.str [32])),(.lit (.str [10])),(.lit (.str [32,10,32]))]) (.bin .mod (.bin .fdiv (.var 4) (.lit (.int 2))) (.lit (.int 4))))]
  [])::b_law_15)
noncomputable def b_law_17:List St:=((.assign 5 (.call 35 [(.var 3),(.bin .fdiv (.call 15 [(.var 0),(.lit (.int 1))]) (.lit (.int 3)))]))::b_law_16)
noncomputable def b_law_18:List St:=((.assign 4 (.call 15 [(.var 0),(.lit (.int 2))]))::b_law_17)
noncomputable def b_law_19:List St:=((.assign 3 (.call 32 [(.var 2),(.bin .mod (.call 15 [(.var 0),(.lit (.int 1))]) (.lit (.int 3)))]))::b_law_18)
noncomputable def b_law_20:List St:=((.assign 2 (.call 30 [(.call 16 [(.var 0),(.lit (.int 3)),(.lit (.int 33))]),(.var 1)]))::b_law_19)
noncomputable def d_law:Def:=⟨[(Str.ofString "_law_script"),(Str.ofString "_law_words"),(Str.ofString "_law_parts"),(Str.ofString "_law_rows"),(Str.ofString "_law_cell"),(Str.ofString "_law_text_here"),(Str.ofString "_law_last"),(Str.ofString "_law_found"),(Str.ofString "_law_again"),(Str.ofString "_law_at"),(Str.ofString "_law_told"),(Str.ofString "_law_wrong_here"),(Str.ofString "_law_later"),(Str.ofString "_law_due")],1,
 ((.assign 1 (.call 19 [(.call 15 [(.var 0),(.lit (.int 0))])]))::b_law_20)⟩
noncomputable def b_m_take_0:List St:=[.ret (.call 10 [(.told (.var 0)),(.var 1)])]
noncomputable def b_m_take_1:List St:=[.ret (.var 2)]
noncomputable def b_m_take_2:List St:=((.setTold (.var 0) (.call 4 [(.told (.var 0)),(.var 2)]))::b_m_take_1)
noncomputable def d_m_take:Def:=⟨[(Str.ofString "self"),(Str.ofString "row"),(Str.ofString "telling")],2,
 ((.ite (.and (.cmp .gt (.bi .len [(.var 1)]) (.lit (.int 0))) (.cmp .eq (.item (.var 1) (.lit (.int 0))) (.lit (.str [116,101,108,108]))))
  ((.assign 2 (.call 12 [(.var 1)]))::b_m_take_2)
  [])::b_m_take_0)⟩
noncomputable def d_m_table:Def:=⟨[(Str.ofString "self")],1,
 [.ret (.bi .list [(.told (.var 0))])]⟩
noncomputable abbrev f_is_word:Nat:=0
noncomputable abbrev f_cut:Nat:=1
noncomputable abbrev f_is_telling:Nat:=2
noncomputable abbrev f_role:Nat:=3
noncomputable abbrev f_added:Nat:=4
noncomputable abbrev f_is_name:Nat:=5
noncomputable abbrev f_enough:Nat:=6
noncomputable abbrev f_first_at:Nat:=7
noncomputable abbrev f_least_right:Nat:=8
noncomputable abbrev f_read_at:Nat:=9
noncomputable abbrev f_tree_of:Nat:=10
noncomputable abbrev f_strength_of:Nat:=11
noncomputable abbrev f_telling_of:Nat:=12
noncomputable abbrev f_read:Nat:=13
noncomputable abbrev f_l_mixed:Nat:=14
noncomputable abbrev f_l_cell_at:Nat:=15
noncomputable abbrev f_l_cells:Nat:=16
noncomputable abbrev f_l_sign_by:Nat:=17
noncomputable abbrev f_l_word_by:Nat:=18
noncomputable abbrev f_l_words_by:Nat:=19
noncomputable abbrev f_l_role:Nat:=20
noncomputable abbrev f_l_clash:Nat:=21
noncomputable abbrev f_l_telling_by:Nat:=22
noncomputable abbrev f_l_name_by:Nat:=23
noncomputable abbrev f_l_grown_by:Nat:=24
noncomputable abbrev f_l_tree_by:Nat:=25
noncomputable abbrev f_l_strength:Nat:=26
noncomputable abbrev f_l_enough:Nat:=27
noncomputable abbrev f_l_operand:Nat:=28
noncomputable abbrev f_l_row_by:Nat:=29
noncomputable abbrev f_l_parts_by:Nat:=30
noncomputable abbrev f_l_is_telling:Nat:=31
noncomputable abbrev f_l_rows_by:Nat:=32
noncomputable abbrev f_l_alike:Nat:=33
noncomputable abbrev f_l_list:Nat:=34
noncomputable abbrev f_l_text:Nat:=35
noncomputable abbrev f_l_held:Nat:=36
noncomputable abbrev f_l_fit:Nat:=37
noncomputable abbrev f_l_by_root:Nat:=38
noncomputable abbrev f_l_trees:Nat:=39
noncomputable abbrev f_l_once_more:Nat:=40
noncomputable abbrev f_l_wrong:Nat:=41
noncomputable abbrev f_l_refusal:Nat:=42
noncomputable abbrev f_l_alone:Nat:=43
noncomputable abbrev f_l_refused_by_any:Nat:=44
noncomputable abbrev f_law:Nat:=45
noncomputable abbrev f_m_take:Nat:=46
noncomputable abbrev f_m_table:Nat:=47
noncomputable def defs:List Def:=[d_is_word,d_cut,d_is_telling,d_role,d_added,d_is_name,d_enough,d_first_at,d_least_right,d_read_at,d_tree_of,d_strength_of,d_telling_of,d_read,d_l_mixed,d_l_cell_at,d_l_cells,d_l_sign_by,d_l_word_by,d_l_words_by,d_l_role,d_l_clash,d_l_telling_by,d_l_name_by,d_l_grown_by,d_l_tree_by,d_l_strength,d_l_enough,d_l_operand,d_l_row_by,d_l_parts_by,d_l_is_telling,d_l_rows_by,d_l_alike,d_l_list,d_l_text,d_l_held,d_l_fit,d_l_by_root,d_l_trees,d_l_once_more,d_l_wrong,d_l_refusal,d_l_alone,d_l_refused_by_any,d_law,d_m_take,d_m_table]
noncomputable def tab:Tab:=⟨[(Str.ofString "is_word"),(Str.ofString "cut"),(Str.ofString "is_telling"),(Str.ofString "role"),(Str.ofString "added"),(Str.ofString "is_name"),(Str.ofString "enough"),(Str.ofString "first_at"),(Str.ofString "least_right"),(Str.ofString "read_at"),(Str.ofString "tree_of"),(Str.ofString "strength_of"),(Str.ofString "telling_of"),(Str.ofString "read"),(Str.ofString "_law_mixed"),(Str.ofString "_law_cell_at"),(Str.ofString "_law_cells"),(Str.ofString "_law_sign_by"),(Str.ofString "_law_word_by"),(Str.ofString "_law_words_by"),(Str.ofString "_law_role"),(Str.ofString "_law_clash"),(Str.ofString "_law_telling_by"),(Str.ofString "_law_name_by"),(Str.ofString "_law_grown_by"),(Str.ofString "_law_tree_by"),(Str.ofString "_law_strength"),(Str.ofString "_law_enough"),(Str.ofString "_law_operand"),(Str.ofString "_law_row_by"),(Str.ofString "_law_parts_by"),(Str.ofString "_law_is_telling"),(Str.ofString "_law_rows_by"),(Str.ofString "_law_alike"),(Str.ofString "_law_list"),(Str.ofString "_law_text"),(Str.ofString "_law_held"),(Str.ofString "_law_fit"),(Str.ofString "_law_by_root"),(Str.ofString "_law_trees"),(Str.ofString "_law_once_more"),(Str.ofString "_law_wrong"),(Str.ofString "_law_refusal"),(Str.ofString "_law_alone"),(Str.ofString "_law_refused_by_any"),(Str.ofString "law")],
 [((Str.ofString "ALONE"),(.str k_ALONE)),((Str.ofString "SIGNS"),(.str k_SIGNS)),((Str.ofString "LONGEST"),(.int 8)),((Str.ofString "KINDS"),(.tup [(.str [108,101,102,116]),(.str [114,105,103,104,116]),(.str [110,111,110,101]),(.str [98,101,102,111,114,101]),(.str [98,101,104,105,110,100])])),((Str.ofString "MOST_STRENGTH"),(.int 30)),((Str.ofString "NAMES"),(.int 31)),((Str.ofString "MOST_WORDS"),(.int 99)),((Str.ofString "FIGURES"),(.str k_FIGURES))],
 [],
 [((Str.ofString "ReadError"),0),((Str.ofString "NoWord"),1),((Str.ofString "NoTelling"),2),((Str.ofString "Clash"),3),((Str.ofString "NoPart"),4),((Str.ofString "NoTree"),5),((Str.ofString "TooMuch"),6),((Str.ofString "str"),10),((Str.ofString "int"),11),((Str.ofString "bool"),12),((Str.ofString "tuple"),13),((Str.ofString "list"),14),((Str.ofString "ValueError"),15)],
 (Str.ofString "Reader"),[((Str.ofString "take"),46),((Str.ofString "table"),47)]⟩
end Mine.L
set_option maxRecDepth 100000
namespace Mine.L
open PySem PyProof.Rows PySem.W Mine
noncomputable def mix (c k:Int):Int:=(c+7919*k)*48271 % 2147483647*((c+7919*k)*48271 % 2147483647) % 2147483629
noncomputable def cell (ns:List Int) (k:Nat):Int:=match ns[k]? with | some c=>mix c k | none=>0
variable {ns:List Int} {C:Nat->CallT} {n:Nat} {H:Hp} {Q:D->Hp->Prop} {X:Nat->Hp->Prop}
theorem mixed_spec (hC:CT ns defs C) {c k:Int} (h:Q (.int (mix c k)) H):C (n+1) f_l_mixed [.int c,.int k] H Q X:=by
 refine hC.intro (df:=d_l_mixed) rfl rfl ?_
 refine ⟨_,rfl,_,rfl,mulOk_left (by decide),mulOk_right (by decide),by decide,?_⟩
 exact ⟨_,rfl,_,rfl,mulOk_right (by omega),by decide,h⟩
theorem cell_at_spec (hC:CT ns defs C) {k:Nat} (h:Q (.int (cell ns k)) H):C (n+2) f_l_cell_at [.scr,.int k] H Q X:=by
 refine hC.intro (df:=d_l_cell_at) rfl rfl ?_
 refine ⟨_,rfl,_,rfl,decide ((k:Int) < ns.length),rfl,_,rfl,?_⟩
 by_cases hk:k < ns.length
 ·have e:cell ns k=mix ns[k] k:=by unfold cell;rw [List.getElem?_eq_getElem hk]
  rw [if_pos (decide_eq_true (by exact jk15 hk))]
  rw [e] at h
  exact ⟨_,rfl,_,rfl,by exact jk1,_,List.getElem?_eq_getElem hk,_,rfl,mixed_spec hC h⟩
 ·have e:cell ns k=0:=by unfold cell;rw [List.getElem?_eq_none (by exact jk8 hk)]
  rw [if_neg (by simp;exact jk8 hk)]
  rw [e] at h
  exact h
theorem compL_rel {src:D} {all:List D} {f:D->Hp->(Option D->Hp->Prop)->Prop} {Qf:List D->Hp->Prop} (R:D->Prop) (I:Hp->Prop) (hsrc:∀H,I H->iterD H src=some all)
  (hf:∀d∈all,∀H K,I H->(∀r H',I H'->R r->K (some r) H')->f d H K) (hQ:∀acc H,I H->acc.length=all.length->(∀r∈acc,R r)->Qf acc H) {H:Hp} (h:I H):compL src all f Qf all [] H:=by
 have main:∀(ds acc:List D) (H:Hp),(∀d∈ds,d∈all)->acc.length+ds.length=all.length->(∀r∈acc,R r)->I H->compL src all f Qf ds acc H:=by
  intro ds
  induction ds with
  | nil=>intro acc H _ e ha hI;exact ⟨hsrc H hI,hQ acc H hI (by simpa using e) ha⟩
  | cons d ds ih=>
   intro acc H hd e ha hI
   refine ⟨hsrc H hI,hf d (hd d List.mem_cons_self) H _ hI fun r H' hI' hr=>?_⟩
   refine ih (acc++[r]) H' (fun x hx=>hd x (List.mem_cons_of_mem _ hx)) (by simp at e ⊢;exact jk10 e) (fun x hx=>?_) hI'
   rcases List.mem_append.mp hx with hx | hx
   ·exact ha x hx
   ·rw [List.mem_singleton.mp hx];exact hr
 exact main all [] H (fun _ hx=>hx) (by simp) (fun _ hx=>by cases hx) h
theorem compL_rel2 {src:D} {all:List D} {f:D->Hp->(Option D->Hp->Prop)->Prop} {Qf:List D->Hp->Prop} (R:D->D->Prop) (I:Hp->Prop) (hsrc:∀H,I H->iterD H src=some all)
  (hf:∀d∈all,∀H K,I H->(∀r H',I H'->R d r->K (some r) H')->f d H K) (hQ:∀acc H,I H->acc.length=all.length->(∀(i:Nat) (d r:D),all[i]?=some d->acc[i]?=some r->R d r)->Qf acc H) {H:Hp} (h:I H):compL src all f Qf all [] H:=by
 have main:∀(ds pre acc:List D) (H:Hp),all=pre++ds->acc.length=pre.length->(∀(i:Nat) (d r:D),pre[i]?=some d->acc[i]?=some r->R d r)->I H->compL src all f Qf ds acc H:=by
  intro ds
  induction ds with
  | nil=>intro pre acc H e hl ha hI;rw [List.append_nil] at e;subst e;exact ⟨hsrc H hI,hQ acc H hI hl ha⟩
  | cons d ds ih=>
   intro pre acc H e hl ha hI
   refine ⟨hsrc H hI,hf d (by rw [e];simp) H _ hI fun r H' hI' hr=>?_⟩
   refine ih (pre++[d]) (acc++[r]) H' (by rw [e];simp) (by simp [hl]) (fun i d' r' h1 h2=>?_) hI'
   by_cases hi:i < pre.length
   ·rw [List.getElem?_append_left hi] at h1
    rw [List.getElem?_append_left (by exact jk26 hi hl)] at h2
    exact ha i d' r' h1 h2
   ·have hi':i=pre.length:=by
     have:=(List.getElem?_eq_some_iff.mp h1).1
     simp at this;exact Nat.le_antisymm (jl1 (jc2 _ _) (jA j0 (jK 1)) (jA j1 (jK 1)) j0 j1 rfl this) (jl1 (jc2 _ _) j0 j1 j0 j1 rfl (Nat.le_of_not_lt hi))
    subst hi'
    rw [List.getElem?_append_right (Nat.le_refl _)] at h1
    rw [List.getElem?_append_right (by exact jl1 (jc2 _ _) j0 j1 j0 j1 rfl (Nat.le_of_eq hl)),hl] at h2
    simp at h1 h2
    rw [<-h1,<-h2];exact hr
 exact main all [] [] H rfl rfl (fun _ _ _ h1=>by simp at h1) h
theorem none_of_le {H H':Hp} {a:Addr} (h:H.Le H') (ha:H' a=none):H a=none:=by
 cases e:H a with
 | none=>rfl
 | some x=>rw [h a x e] at ha;cases ha
theorem le_set_new {H H':Hp} {a:Addr} {o:HObj} (h:H.Le H') (ha:H a=none):H.Le (H'.set a o):=fun b x e=>by
 rw [set_ne (fun q=>by subst q;rw [e] at ha;cases ha)];exact h b x e
theorem ne_of {H:Hp} {a c:Addr} {x:HObj} (h1:H a=some x) (h2:H c=none):a≠c:=fun q=>by subst q;rw [h1] at h2;cases h2
theorem iter_range {m:Nat} (h:m<=400000):iterD H (.rng 0 m)=some ((List.range m).map fun k:Nat=>D.int k):=by rw [iter_rng (by exact ⟨ul0 (uc1 0) (uN (uK 400000)) (uK 0) rfl,⟨ul0 (uc1 0) (uK 0) (uK 400000) rfl,⟨ul1 (uc1 ((_:Nat):Int)) (uK 0) u0 (uN (uK 400000)) u0 rfl (Int.natCast_nonneg _),ul1 (uc1 ((_:Nat):Int)) u0 (uK 400000) u0 (uK 400000) rfl (Int.ofNat_le.mpr h)⟩⟩⟩),intsOf_zero]
theorem item_at {l:List D} {a:Addr} {i:Int} {d:D} (ha:H a=some (.list l)) (h0:0<=i) (hd:l[i.toNat]?=some d) (h:Q d H):vItem (.ref a) (.int i) ns H Q:=item_ltM h0 hd h ha
theorem item_of {l:List D} {a:Addr} {i:Int} (ha:H a=some (.list l)) (h0:0<=i) (hi:i < l.length) (h:∀d∈l,Q d H):vItem (.ref a) (.int i) ns H Q:=by
 have hlt:i.toNat < l.length:=by exact jk48 h0 hi
 exact item_ltM h0 (List.getElem?_eq_getElem hlt) (h _ (List.getElem_mem hlt)) ha
theorem cells_spec2 (hC:CT ns defs C) {lo hi:Nat} (hl:lo<=100) (hh:hi<=100) (h:∀a (cs:List Int),cs.length<=hi - lo->H a=none->Q (.ref a) (H.set a (.list (cs.map D.int)))):C (n+2) f_l_cells [.scr,.int lo,.int hi] H Q X:=by
 refine hC.intro (df:=d_l_cells) rfl rfl ?_
 have hi':iterD H (.rng lo (min hi ns.length))=some (intsOf lo (min hi ns.length)):=iter_rng (by omega)
 refine ⟨_,rfl,_,rfl,_,rfl,_,hi',compL_map (fun d=>match d with | .int k=>.int (mix (ns.getD k.toNat 0) k) | _=>.none) (·=H) (fun H' e=>by rw [e];exact hi') (fun d hd H' K hI hK=>?_) (fun H' hI a ha=>?_) rfl⟩
 ·obtain ⟨j,hj,rfl⟩:=List.mem_map.mp hd
  have hj':=List.mem_range.mp hj
  have hlt:((lo:Int)+j).toNat < ns.length:=by omega
  have hk:=hK H' hI
  simp only [List.getD_eq_getElem?_getD,List.getElem?_eq_getElem hlt,Option.getD_some] at hk
  exact ⟨_,rfl,_,rfl,by exact ul2 (uc2 ((_:Nat):Int) ((_:Nat):Int)) (uK 0) u0 (uK 0) u1 (uK 0) (uA u0 u1) rfl (Int.natCast_nonneg _) (Int.natCast_nonneg _),_,List.getElem?_eq_getElem hlt,_,rfl,mixed_spec hC hk⟩
 ·subst hI
  have e:((intsOf lo (min hi ns.length)).map fun d=>match d with | .int k=>D.int (mix (ns.getD k.toNat 0) k) | _=>.none)=(((List.range ((min (hi:Int) ns.length) - lo).toNat)).map fun j:Nat=>mix (ns.getD ((lo:Int)+j).toNat 0) (lo+j)).map D.int:=by
   unfold intsOf;rw [List.map_map,List.map_map];rfl
  rw [e]
  exact h a _ (by simp;omega) ha
theorem cells_spec (hC:CT ns defs C) {lo hi:Nat} (hl:lo<=100) (hh:hi<=100) (h:∀a (cs:List Int),cs.length<=100->H a=none->Q (.ref a) (H.set a (.list (cs.map D.int)))):C (n+2) f_l_cells [.scr,.int lo,.int hi] H Q X:=
 cells_spec2 hC hl hh fun a cs hcs ha=>h a cs (by exact jl3 (jc3 _ (_ - _) _) j0 j1 j2 (jK 100) j1 j2 j0 (jK 100) rfl hcs hh (Nat.sub_le _ _)) ha
noncomputable def sgn (c:Int):Nat:=k_SIGNS.getD (c % 90).toNat 0
theorem sgn_lt (c:Int):(c % 90).toNat < k_SIGNS.length:=by show _ < 90;exact Int.ofNat_le.mp (ul2 (uc2 (((Int.toNat (_ % (90:Int))):Nat):Int) (_ % (90:Int))) (uA u1 (uK 1)) (uK 90) u0 u1 (uA u0 (uK 1)) (uK 90) rfl (uel _ (90:Int) rfl) (Int.le_of_eq (Int.toNat_of_nonneg (ul1 (uc1 (_ % (90:Int))) (uK 0) u0 (uK 0) u0 rfl (uen _ (90:Int) rfl)))))
theorem sgn_get (c:Int):k_SIGNS[(c % 90).toNat]?=some (sgn c):=by
 unfold sgn;rw [List.getD_eq_getElem?_getD,List.getElem?_eq_getElem (sgn_lt c)];rfl
theorem sgn_mem (c:Int):sgn c∈k_SIGNS:=List.mem_of_getElem? (sgn_get c)
theorem signs_nodup:k_SIGNS.Nodup:=by decide
theorem sgn_inj {c:Int} {j k:Nat} (hj:j < 8) (hk:k < 8) (h:sgn (c+j)=sgn (c+k)):j=k:=by
 have e:k_SIGNS[((c+j) % 90).toNat]?=k_SIGNS[((c+k) % 90).toNat]?:=by rw [sgn_get,sgn_get,h]
 have:=(List.getElem?_inj (sgn_lt _) signs_nodup).mp e
 omega
theorem sign_by_spec (hC:CT ns defs C) {c:Int} (h:Q (.str [sgn c]) H):C (n+1) f_l_sign_by [.int c] H Q X:=by
 refine hC.intro (df:=d_l_sign_by) rfl rfl ?_
 refine ⟨_,rfl,by decide,?_⟩
 refine ⟨_,rfl,_,rfl,by decide,?_⟩
 exact item_ltSM (B:=ns) (l:=k_SIGNS) (by exact ul1 (uc1 (_ % (90:Int))) (uK 0) u0 (uK 0) u0 rfl (uen _ (90:Int) rfl)) (sgn_get c) h
noncomputable def tell:List Nat:=[116,101,108,108]
structure IsW (l:List Nat):Prop where
 pos:1<=l.length
 le:l.length<=8
 ne:l≠tell
 sg:∀c∈l,c∈k_SIGNS
noncomputable def strD (l:List (List Nat)):List D:=l.map D.str
theorem strD_get {l:List (List Nat)} {i:Nat} (h:i < l.length):(strD l)[i]?=some (.str l[i]):=by unfold strD;rw [List.getElem?_map,List.getElem?_eq_getElem h];rfl
structure Base (b:List Nat):Prop where
 len:b.length=8
 sg:∀c∈b,c∈k_SIGNS
 ne:b.take 4≠tell
theorem sub_sg {b:List Nat} (hb:Base b) {i j:Nat}:∀c∈(b.take i).drop j,c∈k_SIGNS:=fun c hc=>hb.sg c (List.mem_of_mem_take (List.mem_of_mem_drop hc))
theorem td_le {b:List Nat} {i j:Nat}:((b.take i).drop j).length<=b.length:=by
 rw [List.length_drop,List.length_take];exact Nat.le_trans (Nat.sub_le _ _) (Nat.min_le_right _ _)
theorem t_len {b:List Nat} {i:Nat} (h:i<=b.length):((b.take i).drop 0).length=i:=by rw [List.drop_zero,List.length_take];exact Nat.min_eq_left h
theorem word_1 (hC:CT ns defs C) {c at_:Int} {k s:Nat} {b:List Nat} {x:Option D} (hb:Base b) (hk:k < 8) (h:∀w H',IsW w->w[0]?=some (sgn (c+k))->H.Le H'->Q (.str w) H') :
  vSs ns (C (n+1)) b_l_word_by_1 [some (.int c),some (.int k),some (.str b),some (.int s),some (.int at_),some (.int 2),x] H (retQ Q) fun k _ H'=>X k H':=by
 have hsz:SZ=1000000:=rfl
 have hl:=hb.len
 refine ⟨_,rfl,_,rfl,sign_by_spec hC ?_⟩
 have hs':=sgn_mem (c+k)
 generalize hsg:sgn (c+k)=s' at hs' h ⊢
 have h0:0<=((s:Int)+k) % 8:=by exact ul1 (uc1 ((((_:Nat):Int)+((_:Nat):Int)) % (8:Int))) (uK 0) u0 (uK 0) u0 rfl (uen (((_:Nat):Int)+((_:Nat):Int)) (8:Int) rfl)
 refine ⟨_,rfl,_,rfl,_,rfl,_,rfl,_,rfl,by decide,?_⟩
 refine ⟨_,_,clip_int (Int.natCast_nonneg _),clip_int (Int.add_nonneg (Int.natCast_nonneg _) h0),?_⟩
 refine ⟨Nat.le_trans (Nat.add_le_add_left td_le 1) (by rw [hl];decide),?_⟩
 generalize hw:([s']++(b.take (min ((k:Int)+((s:Int)+k) % 8).toNat b.length)).drop (min (k:Int).toNat b.length))=w
 refine ⟨_,rfl,fun a ha=>⟨_,rfl,w==tell,rfl,?_⟩⟩
 have hle:H.Le (H.set a (.list [.str w,.str [116]])):=.set _ ha
 by_cases hq:w=tell
 ·have e:(w==tell)=true:=by simp [hq]
  rw [e]
  refine item_at (ns:=ns) set_self' (by decide) rfl (h _ _ ⟨by decide,by decide,by decide,by decide⟩ ?_ hle)
  have:=congrArg (fun l:List Nat=>l[0]?) (hw.trans hq)
  exact this.symm
 ·have e:(w==tell)=false:=by simp [hq]
  rw [e]
  refine item_at (ns:=ns) set_self' (by decide) rfl (h _ _ ⟨?_,?_,hq,?_⟩ (by rw [<-hw];rfl) hle)
  ·rw [<-hw];simp
  ·rw [<-hw];simp;omega
  ·rw [<-hw]
   intro c hc
   rcases List.mem_append.mp hc with hc | hc
   ·rw [List.mem_singleton.mp hc];exact hs'
   ·exact sub_sg hb c hc
theorem word_mid {b:List Nat} (hb:Base b) {at_ s:Nat} (h1:at_ < s) (h2:s<=8) (h4:s≠4) {x:Nat} (hx:x∈k_SIGNS):IsW ((b.take at_).drop 0++[x]++(b.take s).drop (at_+1)):=by
 have hl:=hb.len
 have hlen:((b.take at_).drop 0++[x]++(b.take s).drop (at_+1)).length=s:=by
  rw [List.length_append,List.length_append,t_len (by exact jk66 h1 hl h2),List.length_drop,List.length_take,Nat.min_eq_left (by exact jk67 h2 hl)];exact Nat.add_sub_cancel' h1
 refine ⟨by exact jl2 (jc3 _ _ _) j1 j0 (jA j2 (jK 1)) j1 (jK 1) j0 rfl (Nat.le_of_eq (Eq.symm hlen)) h1,by exact jl2 (jc2 _ _) j0 j1 j1 (jK 8) j0 (jK 8) rfl (Nat.le_of_eq hlen) h2,fun q=>?_,fun c hc=>?_⟩
 ·rw [q] at hlen;exact h4 hlen.symm
 ·rcases List.mem_append.mp hc with hc | hc
  ·rcases List.mem_append.mp hc with hc | hc
   ·exact sub_sg hb c hc
   ·rw [List.mem_singleton.mp hc];exact hx
  ·exact sub_sg hb c hc
theorem mid_spec (hC:CT ns defs C) {c z:Int} {k s at_:Nat} {b:List Nat} {x5 x6:Option D} {e:Ex} {Y:Nat->Hp->Prop} (hb:Base b) (h1:at_ < s) (h2:s<=8) (h4:s≠4)
  (he:∀R:D->Hp->Prop,R (.int z) H->vE ns (C (n+1)) Y e [some (.int c),some (.int k),some (.str b),some (.int s),some (.int at_),x5,x6] H R) (h:∀w,IsW w->w[at_]?=some (sgn z)->Q (.str w) H) :
  vE ns (C (n+1)) Y (.bin .add (.bin .add (.slice (.var 2) (.lit .none) (.var 4)) (.call f_l_sign_by [e])) (.slice (.var 2) (.bin .add (.var 4) (.lit (.int 1))) (.var 3)))
   [some (.int c),some (.int k),some (.str b),some (.int s),some (.int at_),x5,x6] H Q:=by
 have hsz:SZ=1000000:=rfl
 have hl:=hb.len
 have hat:at_<=b.length:=by exact jk66 h1 hl h2
 refine ⟨_,rfl,_,rfl,_,_,rfl,clip_int (Int.natCast_nonneg _),he _ (sign_by_spec hC ?_)⟩
 refine ⟨Nat.le_trans (Nat.add_le_add_right td_le 1) (by rw [hl];decide),_,rfl,_,rfl,_,rfl,_,_,clip_int (Int.add_nonneg (Int.natCast_nonneg _) (by decide)),clip_int (Int.natCast_nonneg _),?_,?_⟩
 ·rw [List.length_append]
  exact Nat.le_trans (Nat.add_le_add (Nat.add_le_add_right td_le 1) td_le) (by rw [hl];decide)
 have e1:min (at_:Int).toNat b.length=at_:=Nat.min_eq_left hat
 have e2:min ((at_:Int)+1).toNat b.length=at_+1:=Nat.min_eq_left (show at_+1<=b.length by exact jl3 (jc3 _ _ _) (jA j0 (jK 1)) j2 (jK 8) j1 j2 (jK 8) (jA j0 (jK 1)) j1 rfl h1 (Nat.le_of_eq (Eq.symm hl)) h2)
 have e3:min (s:Int).toNat b.length=s:=Nat.min_eq_left (show s<=b.length by exact jk67 h2 hl)
 rw [e1,e2,e3]
 refine h _ (word_mid hb h1 h2 h4 (sgn_mem z)) ?_
 have e4:=t_len hat
 rw [List.getElem?_append_left (by rw [List.length_append,e4];exact Nat.lt_succ_self _),List.getElem?_append_right (Nat.le_of_eq e4),e4,Nat.sub_self];rfl
noncomputable def WK (c:Int) (way at_ k:Nat) (w:List Nat):Prop:=match way with
 | 0=>w.length=k+1
 | 1=>w[at_]?=some (sgn (c+k))
 | _=>w[0]?=some (sgn (c+k))
theorem word_4 (hC:CT ns defs C) {c:Int} {k s at_ way:Nat} {b:List Nat} {x6:Option D} (hb:Base b) (hk:k < 8) (h1:at_ < s) (h2:s<=8) (h4:s≠4) (hw:way < 3) (h:∀w H',IsW w->WK c way at_ k w->H.Le H'->Q (.str w) H') :
  vSs ns (C (n+1)) b_l_word_by_4 [some (.int c),some (.int k),some (.str b),some (.int s),some (.int at_),some (.int way),x6] H (retQ Q) fun k _ H'=>X k H':=by
 have hl:=hb.len
 obtain rfl | rfl | rfl:way=0\/way=1\/way=2:=by omega
 ·refine ⟨_,rfl,true,rfl,true,rfl,?_⟩
  refine ⟨_,rfl,_,rfl,_,_,rfl,clip_int (by exact ul1 (uc1 ((_:Nat):Int)) (uK 0) u0 (uK 0) (uA u0 (uK 1)) rfl (Int.natCast_nonneg _)),h _ _ ⟨?_,?_,fun q=>?_,sub_sg hb⟩ (by show _=_;simp;omega) (.refl _)⟩
  ·simp;omega
  ·simp;exact jl2 (jc2 (min (_+(1:Nat)) _) _) j1 (jK 8) j0 j1 j0 (jK 8) rfl (Nat.le_of_eq hl) (Nat.min_le_right (_+(1:Nat)) _)
  ·have hlen:=congrArg List.length q
   simp [tell] at hlen
   have:k=3:=by omega
   subst this
   refine hb.ne ?_
   rw [<-q];simp [hl]
 ·refine ⟨_,rfl,false,rfl,false,rfl,?_⟩
  refine ⟨_,rfl,true,rfl,true,rfl,mid_spec hC (z:=c+k) hb h1 h2 h4 (fun R hR=>⟨_,rfl,_,rfl,hR⟩) fun w hw hl'=>?_⟩
  refine ⟨w==tell,rfl,_,rfl,?_⟩
  rw [if_neg (by have:=hw.ne;simpa using this)]
  refine ⟨_,rfl,true,rfl,true,rfl,mid_spec hC (z:=c+k) hb h1 h2 h4 (fun R hR=>⟨_,rfl,_,rfl,hR⟩) fun w hw hl'=>?_⟩
  exact h w _ hw hl' (.refl _)
 ·refine ⟨_,rfl,false,rfl,false,rfl,?_⟩
  refine ⟨_,rfl,false,rfl,false,rfl,false,rfl,?_⟩
  refine ⟨_,rfl,false,rfl,false,rfl,?_⟩
  exact word_1 hC hb hk h
noncomputable def szF (c:Int):Nat:=([1,1,2,3,5,8]:List Nat).getD (c / 90 % 6).toNat 1
noncomputable def WW (c:Int) (k:Nat) (w:List Nat):Prop:=WK c (c / 540 % 3).toNat (c / 1620 % szF c).toNat k w
theorem word_7 (hC:CT ns defs C) {c:Int} {k:Nat} {b:List Nat} {x3 x4 x5 x6:Option D} (hb:Base b) (hk:k < 8) (h:∀w H',IsW w->WW c k w->H.Le H'->Q (.str w) H') :
  vSs ns (C (n+1)) b_l_word_by_7 [some (.int c),some (.int k),some (.str b),x3,x4,x5,x6] H (retQ Q) fun k _ H'=>X k H':=by
 obtain ⟨m,hm⟩:∃m:Nat,c / 90 % 6=m:=⟨(c / 90 % 6).toNat,by exact Int.le_antisymm (ul1 (uc2 ((_ / (90:Int)) % (6:Int)) (((Int.toNat ((_ / (90:Int)) % (6:Int))):Nat):Int)) u0 u1 u0 u1 rfl (Int.le_of_eq (Eq.symm (Int.toNat_of_nonneg (ul1 (uc1 ((_ / (90:Int)) % (6:Int))) (uK 0) u0 (uK 0) u0 rfl (uen (_ / (90:Int)) (6:Int) rfl)))))) (ul1 (uc2 (((Int.toNat ((_ / (90:Int)) % (6:Int))):Nat):Int) ((_ / (90:Int)) % (6:Int))) u0 u1 u0 u1 rfl (Int.le_of_eq (Int.toNat_of_nonneg (ul1 (uc1 ((_ / (90:Int)) % (6:Int))) (uK 0) u0 (uK 0) u0 rfl (uen (_ / (90:Int)) (6:Int) rfl)))))⟩
 have hm6:m < 6:=by exact Int.ofNat_le.mp (ul2 (uc2 ((_:Nat):Int) ((_ / (90:Int)) % (6:Int))) u0 u1 (uA u1 (uK 1)) (uK 6) (uA u0 (uK 1)) (uK 6) rfl (Int.le_of_eq (Eq.symm hm)) (uel (_ / (90:Int)) (6:Int) rfl))
 obtain ⟨hs,h1,h2,h4⟩:([.int 1,.int 1,.int 2,.int 3,.int 5,.int 8]:List D)[m]?=some (.int (szF c))/\1<=szF c/\szF c<=8/\szF c≠4:=by
  have e:szF c=([1,1,2,3,5,8]:List Nat).getD m 1:=by unfold szF;rw [hm];rfl
  rw [e]
  clear hm e
  obtain rfl | rfl | rfl | rfl | rfl | rfl:m=0\/m=1\/m=2\/m=3\/m=4\/m=5:=by omega
  all_goals exact ⟨rfl,by decide,by decide,by decide⟩
 intro a ha
 refine ⟨_,rfl,by decide,by decide,by decide,?_⟩
 rw [hm]
 refine item_at (ns:=ns) set_self' (by exact jk1) hs ?_
 refine ⟨_,rfl,by decide,by decide,_,rfl,by exact jk68 h1,?_⟩
 refine ⟨_,rfl,by decide,by decide,by decide,?_⟩
 obtain ⟨at_,hat⟩:∃m:Nat,c / 1620 % szF c=m:=⟨(c / 1620 % szF c).toNat,by have:=Int.emod_nonneg (c / 1620) (show (szF c:Int)≠0 by exact Int.ne_of_gt (ul1 (uc1 ((_:Nat):Int)) (uK 1) u0 (uA (uK 0) (uK 1)) u0 rfl (Int.ofNat_le.mpr h1)));exact Int.le_antisymm (ul1 (uc2 _ (((Int.toNat _):Nat):Int)) u0 u1 u0 u1 rfl (Int.le_of_eq (Eq.symm (Int.toNat_of_nonneg (ul1 (uc1 _) (uK 0) u0 (uK 0) u0 rfl this))))) (ul1 (uc2 (((Int.toNat _):Nat):Int) _) u0 u1 u0 u1 rfl (Int.le_of_eq (Int.toNat_of_nonneg (ul1 (uc1 _) (uK 0) u0 (uK 0) u0 rfl this))))⟩
 obtain ⟨way,hway⟩:∃m:Nat,c / 540 % 3=m:=⟨(c / 540 % 3).toNat,by exact Int.le_antisymm (ul1 (uc2 ((_ / (540:Int)) % (3:Int)) (((Int.toNat ((_ / (540:Int)) % (3:Int))):Nat):Int)) u0 u1 u0 u1 rfl (Int.le_of_eq (Eq.symm (Int.toNat_of_nonneg (ul1 (uc1 ((_ / (540:Int)) % (3:Int))) (uK 0) u0 (uK 0) u0 rfl (uen (_ / (540:Int)) (3:Int) rfl)))))) (ul1 (uc2 (((Int.toNat ((_ / (540:Int)) % (3:Int))):Nat):Int) ((_ / (540:Int)) % (3:Int))) u0 u1 u0 u1 rfl (Int.le_of_eq (Int.toNat_of_nonneg (ul1 (uc1 ((_ / (540:Int)) % (3:Int))) (uK 0) u0 (uK 0) u0 rfl (uen (_ / (540:Int)) (3:Int) rfl)))))⟩
 have hlt:c / 1620 % szF c < szF c:=Int.emod_lt_of_pos _ (by exact jk68 h1)
 rw [hat] at hlt ⊢
 rw [hway]
 exact word_4 hC hb hk (by exact jk64 hlt) h2 h4 (by exact Int.ofNat_le.mp (ul2 (uc2 ((_:Nat):Int) ((_ / (540:Int)) % (3:Int))) u0 u1 (uA u1 (uK 1)) (uK 3) (uA u0 (uK 1)) (uK 3) rfl (Int.le_of_eq (Eq.symm hway)) (uel (_ / (540:Int)) (3:Int) rfl))) fun w H' hw hk' hle=>h w H' hw (by unfold WW;rw [hat,hway];exact hk') ((Hp.Le.set _ ha).trans hle)
theorem word_8 (hC:CT ns defs C) {c:Int} {k:Nat} {b:List Nat} {x3 x4 x5 x6:Option D} (hl:b.length=8) (hs:∀x∈b,x∈k_SIGNS) (hk:k < 8) (h:∀w H',IsW w->WW c k w->H.Le H'->Q (.str w) H') :
  vSs ns (C (n+1)) b_l_word_by_8 [some (.int c),some (.int k),some (.str b),x3,x4,x5,x6] H (retQ Q) fun k _ H'=>X k H':=by
 have hsz:SZ=1000000:=rfl
 have e4:(b.take (min (4:Int).toNat b.length)).drop 0=b.take 4:=by rw [hl];rfl
 refine ⟨_,rfl,_,_,rfl,clip_int (by decide),b.take 4==tell,?_,_,rfl,?_⟩
 ·rw [e4];rfl
 by_cases hq:b.take 4=tell
 ·rw [if_pos (by simp [hq])]
  refine ⟨_,rfl,_,_,rfl,clip_int (by decide),by simp;exact jl2 (jc2 (min (3:Nat) _) _) (jK 1000000) j1 j0 (jK 3) (jA j0 (jK 1)) j1 rfl (Nat.le_of_eq (Eq.symm hsz)) (Nat.min_le_left (3:Nat) _),?_⟩
  refine ⟨_,rfl,_,_,clip_int (by decide),rfl,by simp;exact jl3 (jc4 (min (3:Nat) _) (_ - (min (4:Nat) _)) _ _) j0 (jK 3) j1 j3 (jA j3 (jK 1000000)) (jA (jK 8) j2) (jA (jA j0 (jK 1)) j1) j2 rfl (Nat.min_le_left (3:Nat) _) (Nat.sub_le _ (min (4:Nat) _)) (Nat.add_le_add (Nat.le_of_eq hl) (Nat.le_of_eq (Eq.symm hsz))),?_⟩
  have e3:(b.take (min (3:Int).toNat b.length)).drop 0=b.take 3:=by rw [hl];rfl
  have e5:(b.take b.length).drop (min (4:Int).toNat b.length)=b.drop 4:=by rw [List.take_length,hl];rfl
  rw [e3,e5]
  refine word_7 hC ⟨by simp;omega,fun x hx=>?_,fun q=>?_⟩ hk h
  ·rcases List.mem_append.mp hx with hx | hx
   ·rcases List.mem_append.mp hx with hx | hx
    ·exact hs x (List.mem_of_mem_take hx)
    ·rw [List.mem_singleton.mp hx];decide
   ·exact hs x (List.mem_of_mem_drop hx)
  ·have h3:(b.take 3).length=3:=by simp;omega
   have:=congrArg (fun l:List Nat=>l[3]?) q
   simp [h3,tell] at this
 ·rw [if_neg (by simpa using hq)]
  exact word_7 hC ⟨hl,hs,hq⟩ hk h
theorem sum_one (b:List Nat):((b.map fun s=>[s]).map fun x:List Nat=>x.length+([]:List Nat).length).sum=b.length:=by
 induction b with
 | nil=>rfl
 | cons x b ih=>rw [List.map_cons,List.map_cons,List.sum_cons,ih];simp only [List.length_cons,List.length_nil];exact Nat.le_antisymm (jl0 (jc1 _) (jA (jA (jA (jK 0) (jK 1)) (jK 0)) j0) (jA j0 (jK 1)) rfl) (jl0 (jc1 _) (jA j0 (jK 1)) (jA (jA (jA (jK 0) (jK 1)) (jK 0)) j0) rfl)
theorem word_by_spec (hC:CT ns defs C) {c:Int} {k:Nat} (hk:k < 8) (h:∀w H',IsW w->WW c k w->H.Le H'->Q (.str w) H'):C (n+2) f_l_word_by [.int c,.int k] H Q X:=by
 refine hC.intro (df:=d_l_word_by) rfl rfl ?_
 have hsz:SZ=1000000:=rfl
 have hi:∀H',iterD H' (.rng 0 8)=some ((List.range 8).map fun k:Nat=>D.int k):=fun H'=>iter_range (m:=8) (by decide)
 refine ⟨trivial,_,hi H,compL_rel (fun r=>∃s∈k_SIGNS,r=.str [s]) (·=H) (fun H' _=>hi H') (fun d hd H' K hI hK=>?_) (fun acc H' hI hlen hR a ha=>?_) rfl⟩
 ·obtain ⟨j,_,rfl⟩:=List.mem_map.mp hd
  refine ⟨_,rfl,by decide,by decide,_,rfl,mulOk_right (by decide),mulOk_right (by decide),by decide,sign_by_spec hC (hK _ _ hI ⟨_,sgn_mem _,rfl⟩)⟩
 ·subst hI
  obtain ⟨b,rfl,hb⟩:∃b:List Nat,acc=b.map (fun s=>D.str [s])/\∀s∈b,s∈k_SIGNS:=by
   clear hlen ha
   induction acc with
   | nil=>exact ⟨[],rfl,fun _ h=>by cases h⟩
   | cons r acc ih=>
    obtain ⟨b,rfl,hb⟩:=ih fun r hr=>hR r (List.mem_cons_of_mem _ hr)
    obtain ⟨s,hs,rfl⟩:=hR r List.mem_cons_self
    exact ⟨s::b,rfl,fun x hx=>(List.mem_cons.mp hx).elim (fun q=>q ▸ hs) (hb x)⟩
  have hlen':b.length=8:=by simpa using hlen
  refine ⟨_,b.map fun s=>[s],set_self',strsOf_map _ _,?_,?_⟩
  ·rw [sum_one];exact jl2 (jc2 _ _) j0 (jK 8) (jK 1000000) j1 j0 j1 rfl (Nat.le_of_eq hlen') (Nat.le_of_eq (Eq.symm hsz))
  ·rw [joinS_nil,flat_one (f:=fun s=>s),List.map_id']
   exact word_8 hC hlen' hb hk fun w H2 hw hk' hle=>h w H2 hw hk' ((Hp.Le.set _ ha).trans hle)
noncomputable def someW:List (List Nat):=[[108,101,102,116],[114,105,103,104,116],[110,111,110,101],[98,101,102,111,114,101],[98,101,104,105,110,100],[116,101,108,108,115],[54],[76,101,102,116]]
theorem someW_ok:∀w∈someW,IsW w:=by
 have:∀w∈someW,1<=w.length/\w.length<=8/\w≠tell/\∀c∈w,c∈k_SIGNS:=by decide
 exact fun w hw=>⟨(this w hw).1,(this w hw).2.1,(this w hw).2.2.1,(this w hw).2.2.2⟩
structure Ws (ws:List (List Nat)):Prop where
 len:ws.length=8
 ok:∀w∈ws,IsW w
 nd:ws.Nodup
theorem ww_inj {c:Int} {j k:Nat} {w:List Nat} (hj:j < 8) (hk:k < 8) (h1:WW c j w) (h2:WW c k w):j=k:=by
 unfold WW at h1 h2
 generalize (c / 540 % 3).toNat=way at h1 h2
 match way,h1,h2 with
 | 0,h1,h2=>
  have h1:w.length=j+1:=h1
  have h2:w.length=k+1:=h2
  exact Nat.le_antisymm (jl2 (jc3 _ _ _) (jA j0 (jK 1)) j2 j2 (jA j1 (jK 1)) j0 j1 rfl (Nat.le_of_eq (Eq.symm h1)) (Nat.le_of_eq h2)) (jl2 (jc3 _ _ _) j2 (jA j1 (jK 1)) (jA j0 (jK 1)) j2 j0 j1 rfl (Nat.le_of_eq h1) (Nat.le_of_eq (Eq.symm h2)))
 | 1,h1,h2=>exact sgn_inj hj hk (Option.some.inj ((show w[(c / 1620 % szF c).toNat]?=some (sgn (c+j)) from h1).symm.trans h2))
 | _+2,h1,h2=>exact sgn_inj hj hk (Option.some.inj ((show w[0]?=some (sgn (c+j)) from h1).symm.trans h2))
theorem nodup_set {l:List (List Nat)} {i:Nat} {x:List Nat} (h:l.Nodup) (hx:x∉l):(l.set i x).Nodup:=by
 refine List.pairwise_iff_getElem.mpr fun a b ha hb hab=>?_
 rw [List.length_set] at ha hb
 rw [List.getElem_set,List.getElem_set]
 have hne:=List.pairwise_iff_getElem.mp h a b ha hb hab
 split
 ·split
  ·omega
  ·intro q;exact hx (q ▸ List.getElem_mem hb)
 ·split
  ·intro q;exact hx (q ▸ List.getElem_mem ha)
  ·exact hne
theorem okF_str {l:List (List Nat)}:(strD l).all (okF 8)=true:=by
 unfold strD;rw [List.all_map];exact List.all_eq_true.mpr fun _ _=>rfl
theorem mem_strs (k:List Nat) (l:List (List Nat)):memD (.str k) (strD l)=some (l.contains k):=by
 rw [memD_ok rfl okF_str]
 congr 1
 unfold strD
 induction l with
 | nil=>rfl
 | cons x l ih=>
  rw [List.map_cons,List.any_cons,List.contains_cons,ih]
  show (x==k||_)=(k==x||_)
  rw [Bool.beq_comm]
theorem mem_new {k:List Nat} {l:List (List Nat)} {a:Addr}:vCmp .inn (.str k) (.ref a) (H.set a (.list (strD l)))=some (l.contains k):=by rw [cmp_in_new,mem_strs]
theorem words_body {c:CallT} {z:Int} {k:Nat} {a b:Addr} {ws:List (List Nat)} {x4:Option D} {K:Fl->Loc->Hp->Prop} {Y:Nat->Loc->Hp->Prop} (hws:Ws ws) (ha:H a=some (.list (strD ws))) (hb:H b=some (.list (strD someW)))
  (h:∀ws' x4',Ws ws'->K .next [some (.int z),some (.ref a),some (.ref b),some (.int k),x4'] (H.set a (.list (strD ws')))/\K .next [some (.int z),some (.ref a),some (.ref b),some (.int k),x4'] H) :
  vSs ns c b_l_words_by_2 [some (.int z),some (.ref a),some (.ref b),some (.int k),x4] H K Y:=by
 have hlt:((z / 28+3*(k:Int)) % 8).toNat < someW.length:=by show _ < 8;exact Int.ofNat_le.mp (ul2 (uc2 (((Int.toNat (((_ / (28:Int))+((3:Int)*((_:Nat):Int))) % (8:Int))):Nat):Int) (((_ / (28:Int))+((3:Int)*((_:Nat):Int))) % (8:Int))) (uA u1 (uK 1)) (uK 8) u0 u1 (uA u0 (uK 1)) (uK 8) rfl (uel ((_ / (28:Int))+((3:Int)*((_:Nat):Int))) (8:Int) rfl) (Int.le_of_eq (Int.toNat_of_nonneg (ul1 (uc1 (((_ / (28:Int))+((3:Int)*((_:Nat):Int))) % (8:Int))) (uK 0) u0 (uK 0) u0 rfl (uen ((_ / (28:Int))+((3:Int)*((_:Nat):Int))) (8:Int) rfl)))))
 refine ⟨_,rfl,_,rfl,by decide,by decide,_,rfl,mulOk_left (by decide),by decide,item_at (ns:=ns) hb (by exact ul1 (uc1 (((_ / (28:Int))+((3:Int)*((_:Nat):Int))) % (8:Int))) (uK 0) u0 (uK 0) u0 rfl (uen ((_ / (28:Int))+((3:Int)*((_:Nat):Int))) (8:Int) rfl)) (strD_get hlt) ?_⟩
 refine ⟨_,rfl,_,rfl,_,by rw [cmp_nin_ref ha,mem_strs];rfl,_,rfl,?_⟩
 split
 ·rename_i hnot
  have hl8:(strD ws).length=8:=by unfold strD;rw [List.length_map];exact hws.len
  refine ⟨_,rfl,_,rfl,_,rfl,by decide,by decide,_,rfl,mulOk_left (by decide),by decide,_,_,_,rfl,rfl,ha,by exact ul1 (uc1 (((_ / (224:Int))+((5:Int)*((_:Nat):Int))) % (8:Int))) (uK 0) u0 (uK 0) u0 rfl (uen ((_ / (224:Int))+((5:Int)*((_:Nat):Int))) (8:Int) rfl),by exact ul2 (uc2 (((_ / (224:Int))+((5:Int)*((_:Nat):Int))) % (8:Int)) ((_:Nat):Int)) (uK 8) u1 (uA u0 (uK 1)) (uK 8) (uA u0 (uK 1)) u1 rfl (Int.ofNat_le.mpr (Nat.le_of_eq (Eq.symm hl8))) (uel ((_ / (224:Int))+((5:Int)*((_:Nat):Int))) (8:Int) rfl),?_⟩
  have e:(strD ws).set ((z / 224+5*(k:Int)) % 8).toNat (.str someW[((z / 28+3*(k:Int)) % 8).toNat])=strD (ws.set ((z / 224+5*(k:Int)) % 8).toNat someW[((z / 28+3*(k:Int)) % 8).toNat]):=by
   unfold strD;rw [List.map_set]
  rw [e]
  refine (h _ _ ⟨by rw [List.length_set];exact hws.len,fun w hw=>?_,nodup_set hws.nd (by simpa using hnot)⟩).1
  rcases List.mem_or_eq_of_mem_set hw with hw | rfl
  ·exact hws.ok w hw
  ·exact someW_ok _ (List.getElem_mem hlt)
 ·exact (h ws _ hws).2
theorem words_loop {c:CallT} {z:Int} {a b:Addr} {Y:Nat->Loc->Hp->Prop} {m:Nat} (hm:m<=8):∀(r:List Nat) (ws:List (List Nat)) (x3 x4:Option D) (H:Hp),a≠b->Ws ws->H a=some (.list (strD ws))->H b=some (.list (strD someW)) ->
  (∀ws' H',Ws ws'->(∀d x,d≠a->H d=some x->H' d=some x)->H' a=some (.list (strD ws'))->Q (.ref a) H') ->
  forL (.rng 0 m) ((List.range m).map fun k:Nat=>D.int k) (bodyQ 3 (vSs ns c b_l_words_by_2) Y)
   (seqQ (vSs ns c b_l_words_by_0) (retQ Q) Y)
   (r.map fun k:Nat=>D.int k) [some (.int z),some (.ref a),some (.ref b),x3,x4] H
 | [],ws,_,_,H,_,hws,ha,_,h=>⟨iter_range (by exact jk31 hm),_,rfl,h ws H hws (fun _ _ _ q=>q) ha⟩
 | k::r,ws,_,_,H,hab,hws,ha,hb,h=>⟨iter_range (by exact jk31 hm),words_body hws ha hb fun ws' x4' hws'=>
   ⟨words_loop hm r ws' _ _ _ hab hws' set_self' (by rw [set_ne (Ne.symm hab)];exact hb) fun ws2 H2 h2 h3 h4=>h ws2 H2 h2 (fun d x hd e=>h3 d x hd (by rw [set_ne hd];exact e)) h4,
    words_loop hm r ws _ _ H hab hws ha hb h⟩⟩
theorem words_by_spec (hC:CT ns defs C) {c:Int} (h:∀a ws H',Ws ws->H.Le H'->H' a=some (.list (strD ws))->Q (.ref a) H'):C (n+3) f_l_words_by [.int c] H Q X:=by
 refine hC.intro (df:=d_l_words_by) rfl rfl ?_
 have hi:∀H',iterD H' (.rng 0 8)=some ((List.range 8).map fun k:Nat=>D.int k):=fun H'=>iter_range (m:=8) (by decide)
 refine ⟨_,hi H,compL_rel2 (fun d r=>∃(k:Nat) (w:List Nat),d=.int k/\r=.str w/\IsW w/\WW c k w) (fun H'=>H.Le H') (fun H' _=>hi H') (fun d hd H' K hI hK=>?_) (fun acc H' hI hlen hR a ha=>?_) (Hp.Le.refl H)⟩
 ·obtain ⟨j,hj,rfl⟩:=List.mem_map.mp hd
  exact ⟨_,rfl,_,rfl,word_by_spec hC (List.mem_range.mp hj) fun w H2 hw hw' hle=>hK _ _ (hI.trans hle) ⟨j,w,rfl,rfl,hw,hw'⟩⟩
 ·have hlen8:acc.length=8:=by simpa using hlen
  have hall:∀(i:Nat) (hi:i < acc.length),∃w,acc[i]=.str w/\IsW w/\WW c i w:=fun i hi=>by
   obtain ⟨k,w,h1,h2,h3,h4⟩:=hR i (.int i) acc[i] (by rw [List.getElem?_map,List.getElem?_range (by exact jk32 hi hlen8)];rfl) (List.getElem?_eq_getElem hi)
   have hk:i=k:=by have:=D.int.inj h1;exact Nat.le_antisymm (Int.ofNat_le.mp (ul1 (uc2 ((_:Nat):Int) ((_:Nat):Int)) u0 u1 u0 u1 rfl (Int.le_of_eq this))) (Int.ofNat_le.mp (ul1 (uc2 ((_:Nat):Int) ((_:Nat):Int)) u0 u1 u0 u1 rfl (Int.le_of_eq (Eq.symm this))))
   subst hk
   exact ⟨w,h2,h3,h4⟩
  obtain ⟨ws,rfl⟩:∃ws:List (List Nat),acc=strD ws:=by
   refine ⟨acc.map fun d=>match d with | .str w=>w | _=>[],?_⟩
   unfold strD
   rw [List.map_map]
   refine List.ext_getElem (by simp) fun i h1 h2=>?_
   obtain ⟨w,e,_⟩:=hall i h1
   rw [List.getElem_map,e];rfl
  have hget:∀(i:Nat) (hi:i < ws.length),IsW ws[i]/\WW c i ws[i]:=fun i hi=>by
   obtain ⟨w,e,h3⟩:=hall i (by unfold strD;simpa using hi)
   have:w=ws[i]:=by unfold strD at e;rw [List.getElem_map] at e;exact (D.str.inj e).symm
   exact this ▸ h3
  have hws:∀w∈ws,IsW w:=fun w hw=>by
   obtain ⟨i,hi,rfl⟩:=List.getElem_of_mem hw
   exact (hget i hi).1
  have hl8:ws.length=8:=by simpa [strD] using hlen
  have hnd:ws.Nodup:=List.pairwise_iff_getElem.mpr fun i j hi hj hij q=>by
   have:=ww_inj (by exact jk32 hi hl8) (by exact jk32 hj hl8) (hget i hi).2 (q ▸ (hget j hj).2)
   exact Nat.not_succ_le_zero 0 (jl2 (jc2 _ _) (jA j0 (jK 1)) j1 j1 j0 (jK 1) (jK 0) rfl hij (Nat.le_of_eq (Eq.symm this)))
  intro b hb
  have hab:a≠b:=fun q=>by subst q;rw [set_self'] at hb;cases hb
  refine ⟨_,rfl,by decide,by decide,by decide,c / 7 % 4==1,rfl,mulOk_left (by decide),?_⟩
  obtain ⟨m,hm,hm8⟩:∃m:Nat,(2*(if (c / 7 % 4==1)=true then 1 else 0):Int)=m/\m<=8:=by
   split
   ·exact ⟨2,rfl,by decide⟩
   ·exact ⟨0,rfl,by decide⟩
  rw [hm]
  refine ⟨_,iter_range (by exact jk31 hm8),words_loop hm8 _ ws _ _ _ hab ⟨hl8,hws,hnd⟩ (set_old set_self' hb) set_self' fun ws' H2 hws' h3 h4=>h a ws' H2 hws' (fun d x e=>?_) h4⟩
  have hda:d≠a:=fun q=>by subst q;rw [hI d x e] at ha;cases ha
  exact h3 d x hda (set_old (set_old (hI d x e) ha) hb)
structure Row where
 kind:List Nat
 pow:Int
 word:List Nat
noncomputable def before:List Nat:=[98,101,102,111,114,101]
noncomputable def behind:List Nat:=[98,101,104,105,110,100]
noncomputable def kinds:List (List Nat):=[[108,101,102,116],[114,105,103,104,116],[110,111,110,101],[98,101,102,111,114,101],[98,101,104,105,110,100]]
noncomputable def rowD (r:Row):D:=.tup [.str tell,.str r.kind,.int r.pow,.str r.word]
structure Tel (ws:List (List Nat)) (r:Row):Prop where
 kind:r.kind∈kinds
 lo:1<=r.pow
 hi:r.pow<=30
 word:IsW r.word
 wm:r.word∉ws.drop 6
noncomputable def ahead (r:Row):Bool:=r.kind==before
noncomputable def roleF (t:List Row) (w:List Nat) (b:Bool):Option Row:=t.find? fun r=>r.word==w&&(ahead r==b)
noncomputable def roleD (t:List Row) (w:List Nat) (b:Bool):D:=match roleF t w b with | some r=>rowD r | none=>.none
theorem roleD_cons (r:Row) (t:List Row) (w:List Nat) (b:Bool):roleD (r::t) w b=if (r.word==w&&(ahead r==b))=true then rowD r else roleD t w b:=by
 unfold roleD roleF;rw [List.find?_cons];cases (r.word==w&&(ahead r==b)) <;> rfl
theorem role_body {c:CallT} {a:Addr} {w:List Nat} {b:Bool} {r:Row} {K:Fl->Loc->Hp->Prop} {Y:Nat->Loc->Hp->Prop}
  (h:if (r.word==w&&(ahead r==b))=true then K (.ret (rowD r)) [some (.ref a),some (.str w),some (.bool b),some (rowD r)] H else K .next [some (.ref a),some (.str w),some (.bool b),some (rowD r)] H) :
  vSs ns c b_l_role_1 [some (.ref a),some (.str w),some (.bool b),some (rowD r)] H K Y:=by
 refine ⟨_,rfl,3,_,rfl,rfl,_,rfl,r.word==w,rfl,_,rfl,?_⟩
 cases hw:r.word==w with
 | false=>rw [hw] at h;exact ⟨_,rfl,h⟩
 | true=>
  rw [hw] at h
  refine ⟨_,rfl,1,_,rfl,rfl,r.kind==before,rfl,_,rfl,(r.kind==before)==b,rfl,_,rfl,?_⟩
  cases hk:(r.kind==before)==b with
  | true=>rw [show (ahead r==b)=true from hk] at h;exact ⟨_,rfl,h⟩
  | false=>rw [show (ahead r==b)=false from hk] at h;exact h
theorem role_loop {c:CallT} {a:Addr} {w:List Nat} {b:Bool} {Y:Nat->Loc->Hp->Prop} {all:List D} (ha:H a=some (.list all)):∀(t:List Row) (v:Option D),Q (roleD t w b) H ->
  forL (.ref a) all (bodyQ 3 (vSs ns c b_l_role_1) Y)
   (seqQ (vSs ns c b_l_role_0) (retQ Q) Y)
   (t.map rowD) [some (.ref a),some (.str w),some (.bool b),v] H
 | [],v,h=>⟨iter_ref ha,h⟩
 | r::t,v,h=>by
  rw [roleD_cons] at h
  refine ⟨iter_ref ha,role_body ?_⟩
  split
  ·rename_i q;rw [if_pos q] at h;exact h
  ·rename_i q;rw [if_neg q] at h;exact role_loop ha t _ h
theorem l_role_spec (hC:CT ns defs C) {a:Addr} {t:List Row} {w:List Nat} {b:Bool} (ha:H a=some (.list (t.map rowD))) (h:Q (roleD t w b) H):C (n+1) f_l_role [.ref a,.str w,.bool b] H Q X:=by
 refine hC.intro (df:=d_l_role) rfl rfl ?_
 exact ⟨_,rfl,_,iter_ref ha,role_loop ha t none h⟩
noncomputable def clashF (t:List Row) (r:Row):Bool:=(t.any fun x=>x.pow==r.pow&&!(x.kind==r.kind))||(roleF t r.word (ahead r)).isSome
theorem clash_body {c:CallT} {a:Addr} {r x:Row} {K:Fl->Loc->Hp->Prop} {Y:Nat->Loc->Hp->Prop}
  (h:if (x.pow==r.pow&&!(x.kind==r.kind))=true then K (.ret (.bool true)) [some (.ref a),some (rowD r),some (rowD x)] H else K .next [some (.ref a),some (rowD r),some (rowD x)] H) :
  vSs ns c b_l_clash_1 [some (.ref a),some (rowD r),some (rowD x)] H K Y:=by
 refine ⟨_,rfl,2,_,rfl,rfl,_,rfl,2,_,rfl,rfl,x.pow==r.pow,rfl,_,rfl,?_⟩
 cases hw:x.pow==r.pow with
 | false=>rw [hw] at h;exact ⟨_,rfl,h⟩
 | true=>
  rw [hw] at h
  refine ⟨_,rfl,1,_,rfl,rfl,_,rfl,1,_,rfl,rfl,!(x.kind==r.kind),rfl,_,rfl,?_⟩
  cases hk:!(x.kind==r.kind) with
  | true=>rw [hk] at h;exact h
  | false=>rw [hk] at h;exact h
theorem clash_loop (hC:CT ns defs C) {a:Addr} {r:Row} {Y:Nat->Loc->Hp->Prop} {t:List Row} (ha:H a=some (.list (t.map rowD))):∀(t':List Row) (v:Option D),Q (.bool ((t'.any fun x=>x.pow==r.pow&&!(x.kind==r.kind))||(roleF t r.word (ahead r)).isSome)) H ->
  forL (.ref a) (t.map rowD) (bodyQ 2 (vSs ns (C (n+1)) b_l_clash_1) Y)
   (seqQ (vSs ns (C (n+1)) b_l_clash_0) (retQ Q) Y)
   (t'.map rowD) [some (.ref a),some (rowD r),v] H
 | [],v,h=>by
  refine ⟨iter_ref ha,_,rfl,_,rfl,3,_,rfl,rfl,_,rfl,1,_,rfl,rfl,r.kind==before,rfl,l_role_spec hC ha ⟨(roleF t r.word (ahead r)).isSome,?_,?_⟩⟩
  ·show vCmp .isnot (roleD t r.word (ahead r)) .none H=_
   unfold roleD;cases roleF t r.word (ahead r) <;> rfl
  ·rw [List.any_nil,Bool.false_or] at h;exact h
 | x::t',v,h=>by
  refine ⟨iter_ref ha,clash_body ?_⟩
  rw [List.any_cons] at h
  split
  ·rename_i q;rw [q] at h;exact h
  ·rename_i q
   rw [Bool.not_eq_true] at q
   rw [q,Bool.false_or] at h
   exact clash_loop hC ha t' _ h
theorem clash_spec (hC:CT ns defs C) {a:Addr} {t:List Row} {r:Row} (ha:H a=some (.list (t.map rowD))) (h:Q (.bool (clashF t r)) H):C (n+2) f_l_clash [.ref a,rowD r] H Q X:=by
 refine hC.intro (df:=d_l_clash) rfl rfl ?_
 exact ⟨_,rfl,_,iter_ref ha,clash_loop hC ha t none h⟩
theorem first_six {ws:List (List Nat)} {i:Nat} (hws:Ws ws) (hi:i < ws.length) (h:i < 6):ws[i]∉ws.drop 6:=fun q=>by
 obtain ⟨j,hj,e⟩:=List.mem_drop_iff_getElem.mp q
 have:=List.pairwise_iff_getElem.mp hws.nd i (6+j) hi (by exact jl1 (jc2 _ _) (jA (jA j0 (jK 6)) (jK 1)) j1 (jA (jA (jK 6) j0) (jK 1)) j1 rfl hj) (by exact jl1 (jc2 _ _) (jA j0 (jK 1)) (jK 6) (jA j0 (jK 1)) (jA (jK 6) j1) rfl h)
 exact this e.symm
theorem kinds_get {i:Int}:∃k,(strD kinds)[(i % 5).toNat]?=some (.str k)/\k∈kinds:=by
 have h:(i % 5).toNat < kinds.length:=by show _ < 5;exact Int.ofNat_le.mp (ul2 (uc2 (((Int.toNat (_ % (5:Int))):Nat):Int) (_ % (5:Int))) (uA u1 (uK 1)) (uK 5) u0 u1 (uA u0 (uK 1)) (uK 5) rfl (uel _ (5:Int) rfl) (Int.le_of_eq (Int.toNat_of_nonneg (ul1 (uc1 (_ % (5:Int))) (uK 0) u0 (uK 0) u0 rfl (uen _ (5:Int) rfl)))))
 exact ⟨_,strD_get h,List.getElem_mem h⟩
theorem telling_by_spec (hC:CT ns defs C) {c:Int} {b:Addr} {ws:List (List Nat)} (hws:Ws ws) (hb:H b=some (.list (strD ws))) (h:∀r H',Tel ws r->H.Le H'->Q (rowD r) H'):C (n+1) f_l_telling_by [.int c,.ref b] H Q X:=by
 refine hC.intro (df:=d_l_telling_by) rfl rfl ?_
 obtain ⟨k,hk,hkm⟩:=kinds_get (i:=c)
 intro a ha
 have hle:H.Le (H.set a (.list (strD kinds))):=.set _ ha
 have hlt:(c / 600 % 6).toNat < ws.length:=by have:=hws.len;omega
 refine ⟨_,rfl,by decide,item_at (ns:=ns) set_self' (by exact jk69) hk ?_⟩
 refine ⟨_,rfl,by decide,by decide,by decide,?_⟩
 refine ⟨_,rfl,by decide,by decide,by decide,decide (c / 5 % 4 > 0),rfl,_,rfl,?_⟩
 split
 ·refine ⟨_,rfl,by decide,by decide,by decide,?_⟩
  refine ⟨_,rfl,_,rfl,_,rfl,_,rfl,by decide,by decide,by decide,item_at (ns:=ns) (set_old hb ha) (by exact jk70) (strD_get hlt) ?_⟩
  exact h ⟨k,1+c / 20 % 6,_⟩ _ ⟨hkm,by show 1<=1+c / 20 % 6;exact ul1 (uc1 ((_ / (20:Int)) % (6:Int))) (uK 0) u0 (uK 1) (uA (uK 1) u0) rfl (uen (_ / (20:Int)) (6:Int) rfl),by show 1+c / 20 % 6<=30;exact ul1 (uc1 ((_ / (20:Int)) % (6:Int))) (uA u0 (uK 1)) (uK 6) (uA (uK 1) u0) (uK 30) rfl (uel (_ / (20:Int)) (6:Int) rfl),hws.ok _ (List.getElem_mem hlt),first_six hws hlt (by exact jk71)⟩ hle
 ·refine ⟨_,rfl,_,rfl,_,rfl,_,rfl,by decide,by decide,by decide,item_at (ns:=ns) (set_old hb ha) (by exact jk70) (strD_get hlt) ?_⟩
  exact h ⟨k,1+c / 20 % 30,_⟩ _ ⟨hkm,by show 1<=1+c / 20 % 30;exact ul1 (uc1 ((_ / (20:Int)) % (30:Int))) (uK 0) u0 (uK 1) (uA (uK 1) u0) rfl (uen (_ / (20:Int)) (30:Int) rfl),by show 1+c / 20 % 30<=30;exact ul1 (uc1 ((_ / (20:Int)) % (30:Int))) (uA u0 (uK 1)) (uK 30) (uA (uK 1) u0) (uK 30) rfl (uel (_ / (20:Int)) (30:Int) rfl),hws.ok _ (List.getElem_mem hlt),first_six hws hlt (by exact jk71)⟩ hle
structure Tb (ws:List (List Nat)) (t:List Row):Prop where
 tel:∀r∈t,Tel ws r
 uniq:∀r∈t,roleF t r.word (ahead r)=some r
 same:∀r∈t,∀s∈t,r.pow=s.pow->r.kind=s.kind
theorem Tb.nil {ws:List (List Nat)}:Tb ws []:=⟨(fun _ h=>by cases h),(fun _ h=>by cases h),(fun _ h=>by cases h)⟩
theorem Tb.add {ws:List (List Nat)} {t:List Row} {r:Row} (x:Tb ws t) (hr:Tel ws r) (hc:clashF t r=false):Tb ws (t++[r]):=by
 have hn:roleF t r.word (ahead r)=none:=by
  unfold clashF at hc
  rw [Bool.or_eq_false_iff] at hc
  exact Option.isSome_eq_false_iff.mp hc.2 |> Option.isNone_iff_eq_none.mp
 have hk:∀y∈t,y.pow=r.pow->y.kind=r.kind:=fun y hy hp=>by
  unfold clashF at hc
  rw [Bool.or_eq_false_iff] at hc
  have:=List.any_eq_false.mp hc.1 y hy
  simpa [hp] using this
 refine ⟨fun y hy=>?_,fun y hy=>?_,fun y hy z hz hp=>?_⟩
 ·rcases List.mem_append.mp hy with hy | hy
  ·exact x.tel y hy
  ·rw [List.mem_singleton.mp hy];exact hr
 rotate_left
 ·rcases List.mem_append.mp hy with hy | hy <;> rcases List.mem_append.mp hz with hz | hz
  ·exact x.same y hy z hz hp
  ·rw [List.mem_singleton.mp hz] at hp ⊢;exact hk y hy hp
  ·rw [List.mem_singleton.mp hy] at hp ⊢;exact (hk z hz hp.symm).symm
  ·rw [List.mem_singleton.mp hy,List.mem_singleton.mp hz]
 ·unfold roleF at hn ⊢
  rw [List.find?_append]
  rcases List.mem_append.mp hy with hy | hy
  ·have:=x.uniq y hy
   unfold roleF at this
   rw [this];rfl
  ·rw [List.mem_singleton.mp hy,hn]
   simp
theorem okF_row {t:List Row}:(t.map rowD).all (okF 8)=true:=by
 rw [List.all_map];exact List.all_eq_true.mpr fun _ _=>rfl
theorem is_word_loop {c:CallT} {l:List Nat} {Y:Nat->Loc->Hp->Prop} (h:Q (.bool true) H):∀(r:List Nat) (v:Option D),(∀x∈r,x∈k_SIGNS) ->
  forL (D.str l) (l.map fun c=>D.str [c]) (bodyQ 1 (vSs ns c b_is_word_1) Y)
   (seqQ (vSs ns c b_is_word_0) (retQ Q) Y)
   (r.map fun c=>D.str [c]) [some (.str l),v] H
 | [],v,_=>⟨rfl,h⟩
 | x::r,v,hr=>by
  have hx:(!k_SIGNS.contains x)=false:=by have:=hr x List.mem_cons_self;simp [this]
  refine ⟨rfl,_,rfl,!k_SIGNS.contains x,rfl,_,rfl,?_⟩
  rw [hx]
  exact is_word_loop h r _ fun y hy=>hr y (List.mem_cons_of_mem _ hy)
theorem is_word_spec (hC:CT ns defs C) {l:List Nat} (hl:IsW l) (h:Q (.bool true) H):C (n+1) f_is_word [.str l] H Q X:=by
 refine hC.intro (df:=d_is_word) rfl rfl ?_
 have h1:=hl.pos
 have h2:=hl.le
 have h3:(l==tell)=false:=by have:=hl.ne;simpa using this
 have e1:decide ((1:Int)<=l.length)=true:=decide_eq_true (by exact jk72 h1)
 have e2:decide ((l.length:Int)<=8)=true:=decide_eq_true (by exact jk73 h2)
 refine ⟨_,rfl,true,rfl,true,rfl,false,rfl,_,rfl,decide ((1:Int)<=l.length),rfl,?_⟩
 rw [e1]
 refine ⟨decide ((l.length:Int)<=8),rfl,?_⟩
 rw [e2]
 refine ⟨true,rfl,false,rfl,_,rfl,l==tell,rfl,_,rfl,?_⟩
 rw [h3]
 exact ⟨_,rfl,_,rfl,is_word_loop h l none hl.sg⟩
theorem role_spec (hC:CT ns defs C) {a:Addr} {t:List Row} {w:List Nat} {b:Bool} (ha:H a=some (.list (t.map rowD))) (h:Q (roleD t w b) H):C (n+1) f_role [.ref a,.str w,.bool b] H Q X:=by
 refine hC.intro (df:=d_role) rfl rfl ?_
 exact ⟨_,rfl,_,iter_ref ha,role_loop ha t none h⟩
noncomputable def between:List Nat:=[98,101,116,119,101,101,110]
structure IsNm (t:List Row) (w:List Nat):Prop where
 iw:IsW w
 r1:roleF t w true=none
 r2:roleF t w false=none
inductive Tr (t:List Row):D->Prop
 | name (w:List Nat) (h:IsNm t w):Tr t (.str w)
 | one (r:Row) (x:D) (h:r∈t) (k:r.kind=before\/r.kind=behind) (hx:Tr t x):Tr t (.tup [.str r.kind,.str r.word,x])
 | two (r:Row) (x y:D) (h:r∈t) (k1:r.kind≠before) (k2:r.kind≠behind) (hx:Tr t x) (hy:Tr t y):Tr t (.tup [.str between,.str r.word,x,y])
theorem role_free {t:List Row} {w:List Nat} {b:Bool} (h:∀r∈t,r.word≠w):roleF t w b=none:=by
 unfold roleF
 refine List.find?_eq_none.mpr fun r hr q=>?_
 have:=(Bool.and_eq_true_iff.mp q).1
 exact h r hr (eq_of_beq this)
theorem last_free {ws:List (List Nat)} {t:List Row} (ht:Tb ws t) (hws:Ws ws) {i:Nat} (h6:6<=i) (hi:i < ws.length):IsNm t ws[i]:=by
 have h:∀r∈t,r.word≠ws[i]:=fun r hr q=>by
  refine (ht.tel r hr).wm (q ▸ List.mem_drop_iff_getElem.mpr ⟨i - 6,by exact jl2 (jc3 (_ - (6:Nat)) _ _) (jA j2 (jK 1)) j1 (jA j0 (jK 6)) j2 (jA (jA j0 (jK 6)) (jK 1)) j1 rfl hi (Nat.le_of_eq (Nat.sub_add_cancel (jl1 (jc1 _) (jK 6) j0 (jK 6) j0 rfl h6))),?_⟩)
  congr 1;exact jk74 h6
 exact ⟨hws.ok _ (List.getElem_mem hi),role_free h,role_free h⟩
theorem isN_role {t:List Row} {w:List Nat} {b:Bool} (h:isN (roleD t w b)=true):roleF t w b=none:=by
 unfold roleD at h
 cases e:roleF t w b with
 | none=>rfl
 | some r=>rw [e] at h;exact absurd h Bool.false_ne_true
theorem name_loop (hC:CT ns defs C) {a b:Addr} {c:Int} {t:List Row} {ws:List (List Nat)} {Y:Nat->Loc->Hp->Prop} (ht:Tb ws t) (hws:Ws ws) (ha:H a=some (.list (t.map rowD))) (hb:H b=some (.list (strD ws))) (h:∀w,IsNm t w->Q (.str w) H):∀(r:List Nat) (x3 x4:Option D),
  forL (.rng 0 6) ((List.range 6).map fun k:Nat=>D.int k) (bodyQ 3 (vSs ns (C (n+1)) b_l_name_by_2) Y)
   (seqQ (vSs ns (C (n+1)) b_l_name_by_0) (retQ Q) Y)
   (r.map fun k:Nat=>D.int k) [some (.ref a),some (.int c),some (.ref b),x3,x4] H
 | [],_,_=>by
  have hlt:(6+c % 2).toNat < ws.length:=by have:=hws.len;exact Int.ofNat_le.mp (ul3 (uc3 (((Int.toNat ((6:Int)+(_ % (2:Int)))):Nat):Int) ((_:Nat):Int) (_ % (2:Int))) (uK 8) u1 (uA u2 (uK 1)) (uK 2) u0 (uA (uK 6) u2) (uA u0 (uK 1)) u1 rfl (Int.ofNat_le.mpr (Nat.le_of_eq (Eq.symm this))) (uel _ (2:Int) rfl) (Int.le_of_eq (Int.toNat_of_nonneg (ul1 (uc1 (_ % (2:Int))) (uK 0) u0 (uK 0) (uA (uK 6) u0) rfl (uen _ (2:Int) rfl)))))
  exact ⟨iter_range (m:=6) (by decide),_,rfl,_,rfl,by decide,item_at (ns:=ns) hb (by exact ul1 (uc1 (_ % (2:Int))) (uK 0) u0 (uK 0) (uA (uK 6) u0) rfl (uen _ (2:Int) rfl)) (strD_get hlt) (h _ (last_free ht hws (by exact Int.ofNat_le.mp (ul2 (uc2 (((Int.toNat ((6:Int)+(_ % (2:Int)))):Nat):Int) (_ % (2:Int))) (uK 0) u1 (uA (uK 6) u1) u0 (uK 6) u0 rfl (uen _ (2:Int) rfl) (Int.le_of_eq (Eq.symm (Int.toNat_of_nonneg (ul1 (uc1 (_ % (2:Int))) (uK 0) u0 (uK 0) (uA (uK 6) u0) rfl (uen _ (2:Int) rfl))))))) hlt))⟩
 | k::r,x3,x4=>by
  have hlt:((c+(k:Int)) % 8).toNat < ws.length:=by have:=hws.len;exact Int.ofNat_le.mp (ul3 (uc3 (((Int.toNat ((_+((_:Nat):Int)) % (8:Int))):Nat):Int) ((_:Nat):Int) ((_+((_:Nat):Int)) % (8:Int))) (uK 8) u1 (uA u2 (uK 1)) (uK 8) u0 u2 (uA u0 (uK 1)) u1 rfl (Int.ofNat_le.mpr (Nat.le_of_eq (Eq.symm this))) (uel (_+((_:Nat):Int)) (8:Int) rfl) (Int.le_of_eq (Int.toNat_of_nonneg (ul1 (uc1 ((_+((_:Nat):Int)) % (8:Int))) (uK 0) u0 (uK 0) u0 rfl (uen (_+((_:Nat):Int)) (8:Int) rfl)))))
  have hisN:∀b,vCmp .is (roleD t ws[((c+(k:Int)) % 8).toNat] b) .none H=some (isN (roleD t ws[((c+(k:Int)) % 8).toNat] b)):=fun _=>rfl
  refine ⟨iter_range (m:=6) (by decide),_,rfl,_,rfl,_,rfl,by decide,item_at (ns:=ns) hb (by exact ul1 (uc1 ((_+((_:Nat):Int)) % (8:Int))) (uK 0) u0 (uK 0) u0 rfl (uen (_+((_:Nat):Int)) (8:Int) rfl)) (strD_get hlt) ?_⟩
  refine ⟨_,rfl,_,rfl,l_role_spec hC ha ⟨_,hisN true,_,rfl,?_⟩⟩
  split
  ·rename_i n1
   refine ⟨_,rfl,_,rfl,l_role_spec hC ha ⟨_,hisN false,_,rfl,?_⟩⟩
   split
   ·rename_i n2
    exact ⟨_,rfl,h _ ⟨hws.ok _ (List.getElem_mem hlt),isN_role n1,isN_role n2⟩⟩
   ·exact name_loop hC ht hws ha hb h r _ _
  ·exact ⟨_,rfl,name_loop hC ht hws ha hb h r _ _⟩
theorem name_by_spec (hC:CT ns defs C) {a b:Addr} {c:Int} {t:List Row} {ws:List (List Nat)} (ht:Tb ws t) (hws:Ws ws) (ha:H a=some (.list (t.map rowD))) (hb:H b=some (.list (strD ws))) (h:∀w,IsNm t w->Q (.str w) H):C (n+2) f_l_name_by [.ref a,.int c,.ref b] H Q X:=by
 refine hC.intro (df:=d_l_name_by) rfl rfl ?_
 exact ⟨_,iter_range (m:=6) (by decide),name_loop hC ht hws ha hb h _ none none⟩
noncomputable def But (e:Addr) (H H':Hp):Prop:=∀d x,d≠e->H d=some x->H' d=some x
theorem But.refl {e:Addr} {H:Hp}:But e H H:=fun _ _ _ q=>q
theorem But.trans {e:Addr} {H H' H'':Hp} (x:But e H H') (y:But e H' H''):But e H H'':=fun d z hd q=>y d z hd (x d z hd q)
theorem But.le {e:Addr} {H H':Hp} (x:H.Le H'):But e H H':=fun d z _ q=>x d z q
theorem But.set {e:Addr} {H:Hp} {o:HObj}:But e H (H.set e o):=fun d z hd q=>by rw [set_ne hd];exact q
mutual
noncomputable def szD:D->Nat
 | .tup l=>1+szDs l
 | .none=>1
 | .bool _=>1
 | .int _=>1
 | .str _=>1
 | .ref _=>1
 | .scr=>1
 | .exc _ _=>1
 | .cls _=>1
 | .rng _ _=>1
noncomputable def szDs:List D->Nat
 | []=>0
 | d::l=>szD d+szDs l
end
theorem szDs_append:∀(l m:List D),szDs (l++m)=szDs l+szDs m
 | [],m=>by show szDs m=0+szDs m;exact jk75
 | d::l,m=>by show szD d+szDs (l++m)=szD d+szDs l+szDs m;rw [szDs_append l m];exact jk76
theorem szDs_snoc (l:List D) (d:D):szDs (l++[d])=szDs l+szD d:=by rw [szDs_append];rfl
theorem len_sz:∀(l:List D),l.length<=szDs l
 | []=>Nat.le_refl _
 | d::l=>by
  have h1:1<=szD d:=by cases d <;> first | exact Nat.le_refl 1 | exact Nat.le_add_right _ _
  have:=len_sz l
  show l.length+1<=szD d+szDs l
  exact jl2 (jc3 _ _ _) (jK 1) j1 j0 j2 (jA j0 (jK 1)) (jA j1 j2) rfl h1 this
structure Stk (t:List Row) (e:Addr) (k N:Nat) (H:Hp):Prop where
 ex:∃ds,H e=some (.list ds)/\ds.length=k/\(∀d∈ds,Tr t d)/\szDs ds+3*ds.length<=N
theorem kind_eq {k:List Nat} (b:List Nat):(k==b)=true↔k=b:=by simp
theorem snoc {α:Type} {l:List α} {k:Nat} (h:l.length=k+1):∃es y,l=es++[y]/\es.length=k:=
 ⟨l.dropLast,l.getLast (by intro q;subst q;simp at h),(List.dropLast_concat_getLast _).symm,by simp [h]⟩
theorem join_two {c:CallT} {e:Addr} {t:List Row} {r:Row} {k:Nat} {K:Fl->Loc->Hp->Prop} {Y:Nat->Loc->Hp->Prop} {x0 x1 x2 x4 x6 x7:Option D} (hr:r∈t) (k1:r.kind≠before) (k2:r.kind≠behind) {N:Nat} (hk:k < 1000) (hs:Stk t e (k+2) N H)
  (h:∀H' x6 x7,But e H H'->Stk t e (k+1) N H'->K .next [x0,x1,x2,some (.ref e),x4,some (rowD r),x6,x7] H') :
  vSs ns c b_l_tree_by_3 [x0,x1,x2,some (.ref e),x4,some (rowD r),x6,x7] H K Y:=by
 have hsz:SZ=1000000:=rfl
 obtain ⟨ds,he,hl,ht,hN⟩:=hs.ex
 obtain ⟨es,y,rfl,hl1⟩:=snoc hl
 obtain ⟨fs,x,rfl,hl2⟩:=snoc hl1
 rw [szDs_snoc,szDs_snoc] at hN
 refine ⟨_,rfl,⟨_,he⟩,_,_,he,?_⟩
 refine ⟨_,rfl,⟨_,set_self'⟩,_,_,set_self',?_⟩
 refine ⟨_,rfl,⟨_,set_self'⟩,_,rfl,3,_,rfl,rfl,_,rfl,_,rfl,_,set_self',by exact jl3 (jc3 _ _ _) j0 j2 (jK 1000000) j1 (jA j2 (jK 1)) (jK 1000) (jA j0 (jK 1)) j1 rfl (Nat.le_of_eq hl2) (Nat.le_of_eq (Eq.symm hsz)) hk,?_⟩
 refine h _ _ _ ((But.set.trans But.set).trans But.set) ⟨_,set_self',by simp [hl2],fun d hd=>?_,by rw [szDs_snoc];show szDs fs+(1+(1+(1+(szD x+(szD y+0)))))+_<=N;simp only [List.length_append,List.length_cons,List.length_nil] at hN ⊢;exact jl1 (jc5 _ _ _ _ _) (jA (jA (jA j0 j1) j2) (jM 3 (jA (jA j3 (jA (jK 0) (jK 1))) (jA (jK 0) (jK 1))))) j4 (jA (jA j0 (jA (jK 1) (jA (jK 1) (jA (jK 1) (jA j1 (jA j2 (jK 0))))))) (jM 3 (jA j3 (jA (jK 0) (jK 1))))) j4 rfl hN⟩
 rcases List.mem_append.mp hd with hd | hd
 ·exact ht d (List.mem_append_left _ (List.mem_append_left _ hd))
 ·rw [List.mem_singleton.mp hd];exact .two r x y hr k1 k2 (ht x (by simp)) (ht y (by simp))
noncomputable def lrn:List (List Nat):=[[108,101,102,116],[114,105,103,104,116],[110,111,110,101]]
noncomputable def bb:List (List Nat):=[before,behind]
theorem kind_split {r:Row} (hr:Tel ws r):(r.kind∈lrn/\r.kind≠before/\r.kind≠behind)\/(r.kind∉lrn/\(r.kind=before\/r.kind=behind)):=by
 have:∀k∈kinds,(k∈lrn/\k≠before/\k≠behind)\/(k∉lrn/\(k=before\/k=behind)):=by decide
 exact this _ hr.kind
theorem while_spec {c:CallT} {e:Addr} {t:List Row} {r:Row} {k:Nat} {K:Fl->Loc->Hp->Prop} {Y:Nat->Loc->Hp->Prop} {x0 x1 x2 x4 x6 x7:Option D} (hr:r∈t) (hT:Tel ws r) {N:Nat} (hk:k < 1000) (hs:Stk t e (k+1) N H)
  (h:∀H' k' x6 x7,But e H H'->k' < 1000->Stk t e (k'+1) N H'->K .next [x0,x1,x2,some (.ref e),x4,some (rowD r),x6,x7] H') :
  vSs ns c b_l_tree_by_4 [x0,x1,x2,some (.ref e),x4,some (rowD r),x6,x7] H K Y:=by
 refine ⟨fun m l H'=>∃x6 x7,l=[x0,x1,x2,some (.ref e),x4,some (rowD r),x6,x7]/\But e H H'/\m < 1000/\Stk t e (m+1) N H',⟨k,_,_,rfl,.refl,hk,hs⟩,?_⟩
 rintro m _ H1 ⟨y6,y7,rfl,hbut,hm,hs1⟩
 refine ⟨_,rfl,1,_,rfl,rfl,fun a ha=>⟨_,mem_new (l:=lrn),_,rfl,?_⟩⟩
 have hs2:Stk t e (m+1) N (H1.set a (.list (strD lrn))):=by
  obtain ⟨ds,h1,h2⟩:=hs1.ex
  exact ⟨ds,set_old h1 ha,h2⟩
 have hbut2:But e H (H1.set a (.list (strD lrn))):=hbut.trans (.le (.set _ ha))
 rcases kind_split hT with ⟨h1,h2,h3⟩ | ⟨h1,h2⟩
 ·rw [if_pos (by simpa using h1)]
  obtain ⟨ds,g1,g2,g3,g4⟩:=hs2.ex
  refine ⟨_,rfl,_,g1,decide ((ds.length:Int) > 1),rfl,_,rfl,?_⟩
  cases m with
  | zero=>
   rw [if_neg (by simp;exact ul1 (uc1 ((_:Nat):Int)) u0 (uA (uK 0) (uK 1)) u0 (uK 1) rfl (Int.ofNat_le.mpr (Nat.le_of_eq g2)))]
   exact h _ 0 _ _ hbut2 (by decide) hs2
  | succ m=>
   rw [if_pos (by simp;exact ul2 (uc2 ((_:Nat):Int) ((_:Nat):Int)) (uA (uA u1 (uK 1)) (uK 1)) u0 (uK 0) u1 (uA (uK 1) (uK 1)) u0 rfl (Int.ofNat_le.mpr (Nat.le_of_eq (Eq.symm g2))) (Int.natCast_nonneg _))]
   exact join_two hr h2 h3 (by exact jk77 hm) hs2 fun H' y6 y7 hb' hs'=>⟨m,by exact jk16,_,_,rfl,hbut2.trans hb',by exact jk77 hm,hs'⟩
 ·rw [if_neg (by simpa using h1)]
  exact ⟨_,rfl,h _ m _ _ hbut2 hm hs2⟩
theorem rows_get {t:List Row} {i:Nat} (h:i < t.length):(t.map rowD)[i]?=some (rowD t[i]):=by rw [List.getElem?_map,List.getElem?_eq_getElem h];rfl
theorem Stk.old {t:List Row} {e a:Addr} {k N:Nat} {o:HObj} (x:Stk t e k N H) (ha:H a=none):Stk t e k N (H.set a o):=by
 obtain ⟨ds,h1,h2⟩:=x.ex
 exact ⟨ds,set_old h1 ha,h2⟩
theorem Stk.push {t:List Row} {e:Addr} {k N N':Nat} {ds:List D} {d:D} (hl:ds.length=k) (ht:∀d∈ds,Tr t d) (hN:szDs ds+3*ds.length<=N) (hd:Tr t d) (hN':N+szD d+3<=N'):Stk t e (k+1) N' (H.set e (.list (ds++[d]))):=
 ⟨_,set_self',by simp [hl],fun x hx=>(List.mem_append.mp hx).elim (ht x) fun q=>by rw [List.mem_singleton.mp q];exact hd,by rw [szDs_snoc,List.length_append];simp only [List.length_cons,List.length_nil];exact jl2 (jc5 _ _ _ _ _) (jA (jA j4 j1) (jK 3)) j3 (jA j0 (jM 3 j2)) j4 (jA (jA j0 j1) (jM 3 (jA j2 (jA (jK 0) (jK 1))))) j3 rfl hN' hN⟩
theorem grown_by_spec (hC:CT ns defs C) {a b e:Addr} {c:Int} {t:List Row} {ws:List (List Nat)} {k:Nat} (ht:Tb ws t) (h0:0 < t.length) (hws:Ws ws) (hae:a≠e) (hbe:b≠e) (ha:H a=some (.list (t.map rowD))) (hb:H b=some (.list (strD ws))) {N:Nat} (hk:k < 900) (hs:Stk t e (k+1) N H)
  (h:∀H' k',But e H H'->k'<=k+1->Stk t e (k'+1) (N+4) H'->Q .none H'):C (n+3) f_l_grown_by [.ref a,.ref e,.int c,.ref b] H Q X:=by
 refine hC.intro (df:=d_l_grown_by) rfl rfl ?_
 have hsz:SZ=1000000:=rfl
 have hnn:0<=c / 4 % (t.map rowD).length:=Int.emod_nonneg _ (by rw [List.length_map];exact Int.ne_of_gt (ul1 (uc1 ((_:Nat):Int)) (uA (uK 0) (uK 1)) u0 (uA (uK 0) (uK 1)) u0 rfl (Int.ofNat_le.mpr h0)))
 have hlt:c / 4 % (t.map rowD).length < (t.map rowD).length:=Int.emod_lt_of_pos _ (by rw [List.length_map];exact jk78 h0)
 have hlt':(c / 4 % (t.map rowD).length).toNat < t.length:=by rw [List.length_map] at hlt hnn ⊢;omega
 refine ⟨_,rfl,_,rfl,by decide,by decide,_,rfl,_,ha,by rw [List.length_map];exact jk78 h0,item_at (ns:=ns) ha hnn (rows_get hlt') ?_⟩
 generalize hr:t[(c / 4 % (t.map rowD).length).toNat]=r
 have hrm:r∈t:=hr ▸ List.getElem_mem hlt'
 have hT:=ht.tel r hrm
 refine ⟨_,rfl,1,_,rfl,rfl,fun a' ha'=>⟨_,mem_new (l:=bb),_,rfl,?_⟩⟩
 have hle:H.Le (H.set a' (.list (strD bb))):=.set _ ha'
 have hs':=hs.old (o:=.list (strD bb)) ha'
 obtain ⟨ds,he,hl,htop,hN⟩:=hs'.ex
 rcases kind_split hT with ⟨q1,q2,q3⟩ | ⟨q1,q2⟩
 ·rw [if_neg (by simp [bb,q2,q3])]
  refine ⟨_,rfl,_,he,decide ((ds.length:Int) < 2),rfl,_,rfl,?_⟩
  have rest:∀H1 k1,But e H H1->k1<=k->Stk t e (k1+2) (N+4) H1->∀x5 x6,vSs ns (C (n+2)) b_l_grown_by_2 [some (.ref a),some (.ref e),some (.int c),some (.ref b),some (rowD r),x5,x6] H1 (retQ Q) fun k _ H'=>X k H':=by
   intro H1 k1 hb1 hk1 hs1 x5 x6
   obtain ⟨ds,he,hl,htop,hN⟩:=hs1.ex
   obtain ⟨es,y,rfl,hl1⟩:=snoc hl
   obtain ⟨fs,x,rfl,hl2⟩:=snoc hl1
   rw [szDs_snoc,szDs_snoc] at hN
   simp only [List.length_append,List.length_cons,List.length_nil] at hN
   refine ⟨_,rfl,⟨_,he⟩,_,_,he,?_⟩
   refine ⟨_,rfl,⟨_,set_self'⟩,_,_,set_self',?_⟩
   refine ⟨_,rfl,⟨_,set_self'⟩,_,rfl,3,_,rfl,rfl,_,rfl,_,rfl,_,set_self',by exact jl3 (jc4 _ _ _ _) j2 j3 (jA j3 (jK 1)) (jK 900) (jA j0 (jK 1000000)) (jA j2 j1) (jA j0 (jK 1)) j1 rfl hk1 hk (Nat.add_le_add (Nat.le_of_eq hl2) (Nat.le_of_eq (Eq.symm hsz))),?_⟩
   exact h _ k1 (hb1.trans ((But.set.trans But.set).trans But.set)) (by exact jk24 hk1) (Stk.push hl2 (fun d hd=>htop d (List.mem_append_left _ (List.mem_append_left _ hd))) (Nat.le_refl _) (.two r x y hrm q2 q3 (htop x (by simp)) (htop y (by simp))) (by show _+(1+(1+(1+(szD x+(szD y+0)))))+3<=N+4;exact jl1 (jc5 _ _ _ _ _) (jA (jA (jA j0 j2) j3) (jM 3 (jA (jA j1 (jA (jK 0) (jK 1))) (jA (jK 0) (jK 1))))) (jA j4 (jK 4)) (jA (jA (jA j0 (jM 3 j1)) (jA (jK 1) (jA (jK 1) (jA (jK 1) (jA j2 (jA j3 (jK 0))))))) (jK 3)) (jA j4 (jK 4)) rfl hN))
  cases k with
  | zero=>
   rw [if_pos (by simp;exact ul1 (uc1 ((_:Nat):Int)) u0 (uA (uK 0) (uK 1)) (uA u0 (uK 1)) (uK 2) rfl (Int.ofNat_le.mpr (Nat.le_of_eq hl)))]
   refine ⟨_,rfl,⟨_,he⟩,_,rfl,_,rfl,by decide,by decide,_,rfl,name_by_spec hC ht hws (hle a _ ha) (hle b _ hb) fun w hw=>⟨_,he,by exact jl2 (jc2 _ _) j0 (jA (jK 0) (jK 1)) (jK 1000000) j1 (jA j0 (jK 1)) j1 rfl (Nat.le_of_eq hl) (Nat.le_of_eq (Eq.symm hsz)),?_⟩⟩
   exact rest _ 0 ((But.le hle).trans But.set) (by exact jl0 (jc1 0) (jK 0) (jK 0) rfl) (Stk.push hl htop hN (.name w hw) (by show N+1+3<=N+4;exact jk79)) _ _
  | succ k=>
   rw [if_neg (by simp;exact ul2 (uc2 ((_:Nat):Int) ((_:Nat):Int)) (uA (uA u1 (uK 1)) (uK 1)) u0 (uK 0) u1 (uK 2) u0 rfl (Int.ofNat_le.mpr (Nat.le_of_eq (Eq.symm hl))) (Int.natCast_nonneg _))]
   exact rest _ k (.le hle) (by exact jk6) ⟨ds,he,hl,htop,by exact jl1 (jc3 _ _ _) (jA j0 (jM 3 j1)) j2 (jA j0 (jM 3 j1)) (jA j2 (jK 4)) rfl hN⟩ _ _
 ·rw [if_pos (by simp [bb];exact q2)]
  obtain ⟨es,y,rfl,hl1⟩:=snoc hl
  rw [szDs_snoc] at hN
  simp only [List.length_append,List.length_cons,List.length_nil] at hN
  refine ⟨_,rfl,⟨_,he⟩,_,rfl,1,_,rfl,rfl,_,rfl,3,_,rfl,rfl,_,rfl,⟨_,he⟩,_,_,he,_,set_self',by exact jl3 (jc3 _ _ _) j0 j2 (jK 1000000) j1 (jA j2 (jK 1)) (jK 900) (jA j0 (jK 1)) j1 rfl (Nat.le_of_eq hl1) (Nat.le_of_eq (Eq.symm hsz)) hk,?_⟩
  exact h _ k ((But.le hle).trans (But.set.trans But.set)) (by exact jk6) (Stk.push hl1 (fun d hd=>htop d (List.mem_append_left _ hd)) (Nat.le_refl _) (.one r y hrm q2 (htop y (by simp))) (by show _+(1+(1+(1+(szD y+0))))+3<=N+4;exact jl1 (jc4 _ _ _ _) (jA (jA j0 j2) (jM 3 (jA j1 (jA (jK 0) (jK 1))))) j3 (jA (jA (jA j0 (jM 3 j1)) (jA (jK 1) (jA (jK 1) (jA (jK 1) (jA j2 (jK 0)))))) (jK 3)) (jA j3 (jK 4)) rfl hN))
theorem tree_loop2 (hC:CT ns defs C) {a d b e:Addr} {x4:Option D} {t:List Row} {N:Nat} {Y:Nat->Loc->Hp->Prop} (ht:Tb ws t) (hae:a≠e):∀(t':List Row) (k:Nat) (x5 x6 x7:Option D) (H:Hp),(∀r∈t',r∈t)->H a=some (.list (t.map rowD))->k < 1000->Stk t e (k+1) N H ->
  (∀d H',Tr t d->szD d+3<=N->But e H H'->Q d H') ->
  forL (.ref a) (t.map rowD) (bodyQ 5 (vSs ns (C (n+3)) b_l_tree_by_4) Y)
   (seqQ (vSs ns (C (n+3)) b_l_tree_by_0) (retQ Q) Y)
   (t'.map rowD) [some (.ref a),some (.ref d),some (.ref b),some (.ref e),x4,x5,x6,x7] H
 | [],k,_,_,_,H,_,ha,_,hs,h=>by
  obtain ⟨ds,he,hl,htop,hN⟩:=hs.ex
  obtain ⟨es,y,rfl,hl1⟩:=snoc hl
  rw [szDs_snoc] at hN
  refine ⟨iter_ref ha,_,rfl,1,rfl,item_last (B:=ns) (h y H (htop y (by simp)) (by exact jl2 (jc5 _ _ _ _ _) (jA (jA j2 j0) (jM 3 j3)) j1 (jM 3 (jA j4 (jK 1))) (jM 3 j3) (jA j0 (jK 3)) j1 rfl hN (jm _ 3 (jA j4 (jK 1)) j3 (Nat.le_of_eq (Eq.symm hl)))) .refl) he⟩
 | r::t',k,_,_,_,H,hm,ha,hk,hs,h=>
  ⟨iter_ref ha,while_spec (hm r List.mem_cons_self) (ht.tel r (hm r List.mem_cons_self)) hk hs fun H' k' x6 x7 hb' hk' hs'=>
   tree_loop2 hC ht hae t' k' _ _ _ H' (fun x hx=>hm x (List.mem_cons_of_mem _ hx)) (hb' a _ hae ha) hk' hs' fun d2 H2 h1 h3 h2=>h d2 H2 h1 h3 (hb'.trans h2)⟩
theorem tree_body1 (hC:CT ns defs C) {a d b e:Addr} {c:Int} {t:List Row} {ws:List (List Nat)} {k:Nat} {x5 x6 x7:Option D} {K:Fl->Loc->Hp->Prop} {Y:Nat->Loc->Hp->Prop} (ht:Tb ws t) (hws:Ws ws) (hae:a≠e) (hbe:b≠e)
  (ha:H a=some (.list (t.map rowD))) (hb:H b=some (.list (strD ws))) {N:Nat} (hk:k < 900) (hs:Stk t e (k+1) N H)
  (h:∀H' k',But e H H'->k'<=k+1->Stk t e (k'+1) (N+4) H'->K .next [some (.ref a),some (.ref d),some (.ref b),some (.ref e),some (.int c),x5,x6,x7] H') :
  vSs ns (C (n+3)) b_l_tree_by_6 [some (.ref a),some (.ref d),some (.ref b),some (.ref e),some (.int c),x5,x6,x7] H K Y:=by
 have hsz:SZ=1000000:=rfl
 have name:∀(H1:Hp) (J:Fl->Loc->Hp->Prop),H.Le H1->Stk t e (k+1) N H1->(∀l H',J .next l H'=K .next l H')->vSs ns (C (n+3)) [.expr (.meth .append (.var 3) [(.call f_l_name_by [(.var 0),(.bin .fdiv (.var 4) (.lit (.int 4))),(.var 2)])])]
   [some (.ref a),some (.ref d),some (.ref b),some (.ref e),some (.int c),x5,x6,x7] H1 J Y:=by
  intro H1 J hle hs1 hJ
  obtain ⟨ds,he,hl,htop,hN⟩:=hs1.ex
  refine ⟨_,rfl,⟨_,he⟩,_,rfl,_,rfl,by decide,by decide,_,rfl,name_by_spec hC ht hws (hle a _ ha) (hle b _ hb) fun w hw=>⟨_,he,by exact jl3 (jc3 _ _ _) j0 (jA j2 (jK 1)) (jK 1000000) j1 (jA j2 (jK 1)) (jK 900) (jA j0 (jK 1)) j1 rfl (Nat.le_of_eq hl) (Nat.le_of_eq (Eq.symm hsz)) hk,?_⟩⟩
  have:=h _ (k+1) ((But.le hle).trans But.set) (by exact jl0 (jc1 _) (jA j0 (jK 1)) (jA j0 (jK 1)) rfl) (Stk.push (H:=H1) (e:=e) hl htop hN (.name w hw) (by show N+1+3<=N+4;exact jk79))
  rw [<-hJ] at this
  exact this
 refine ⟨_,rfl,by decide,c % 4==0,rfl,_,rfl,?_⟩
 cases hc:c % 4==0 with
 | true=>exact ⟨true,rfl,name _ _ (.refl _) hs fun _ _=>rfl⟩
 | false=>
  refine ⟨_,rfl,fun a' ha'=>⟨_,eqD_ref (set_old ha ha') set_self' okF_row rfl,_,rfl,?_⟩⟩
  by_cases h0:t=[]
  ·subst h0
   exact name _ _ (.set _ ha') (hs.old ha') fun _ _=>rfl
  ·have hlen:0 < t.length:=List.length_pos_iff.mpr h0
   rw [if_neg (by simp;intro q;exact absurd q h0)]
   exact ⟨_,rfl,_,rfl,_,rfl,_,rfl,grown_by_spec hC ht hlen hws hae hbe (set_old ha ha') (set_old hb ha') hk (hs.old ha') fun H' k' h1 h2 h3=>h H' k' ((But.le (.set _ ha')).trans h1) h2 h3⟩
theorem tree_loop1 (hC:CT ns defs C) {a d b e:Addr} {t:List Row} {ws:List (List Nat)} {cs:List Int} {M:Nat} {Y:Nat->Loc->Hp->Prop} (ht:Tb ws t) (hws:Ws ws) (hae:a≠e) (hbe:b≠e) (hde:d≠e):∀(r:List Int) (k N:Nat) (x4:Option D) (H:Hp),
  H a=some (.list (t.map rowD))->H b=some (.list (strD ws))->H d=some (.list (cs.map D.int))->k+r.length < 900->N+4*r.length<=M->Stk t e (k+1) N H ->
  (∀d H',Tr t d->szD d+3<=M->But e H H'->Q d H') ->
  forL (.ref d) (cs.map D.int) (bodyQ 4 (vSs ns (C (n+3)) b_l_tree_by_6) Y)
   (seqQ (vSs ns (C (n+3)) b_l_tree_by_5) (retQ Q) Y)
   (r.map D.int) [some (.ref a),some (.ref d),some (.ref b),some (.ref e),x4,none,none,none] H
 | [],k,N,_,H,ha,hb,hd,hk,hN,hs,h=>⟨iter_ref hd,_,rfl,_,iter_ref ha,tree_loop2 hC ht hae t k _ _ _ H (fun _ q=>q) ha (by exact jl1 (jc2 _ _) (jA (jA j0 j1) (jK 1)) (jK 900) (jA j0 (jK 1)) (jK 1000) rfl hk) hs fun d H' h1 h2 h3=>h d H' h1 (by simp only [List.length_nil] at hN;exact jl2 (jc3 _ _ _) (jA j0 (jK 3)) j2 (jA j2 (jM 4 (jK 0))) j1 (jA j0 (jK 3)) j1 rfl h2 hN) h3⟩
 | c::r,k,N,_,H,ha,hb,hd,hk,hN,hs,h=>by
  rw [List.length_cons] at hk hN
  exact ⟨iter_ref hd,tree_body1 hC ht hws hae hbe ha hb (by exact jl1 (jc2 _ _) (jA (jA j0 (jA j1 (jK 1))) (jK 1)) (jK 900) (jA j0 (jK 1)) (jK 900) rfl hk) hs fun H' k' hbut hk' hs'=>
   tree_loop1 hC ht hws hae hbe hde r k' (N+4) _ _ (hbut a _ hae ha) (hbut b _ hbe hb) (hbut d _ hde hd) (by exact jl2 (jc3 _ _ _) (jA (jA j2 (jA j1 (jK 1))) (jK 1)) (jK 900) j0 (jA j2 (jK 1)) (jA (jA j0 j1) (jK 1)) (jK 900) rfl hk hk') (by exact jl1 (jc3 _ _ _) (jA j0 (jM 4 (jA j1 (jK 1)))) j2 (jA (jA j0 (jK 4)) (jM 4 j1)) j2 rfl hN) hs' fun d2 H2 h1 h3 h2=>h d2 H2 h1 h3 (hbut.trans h2)⟩
theorem tree_by_spec2 (hC:CT ns defs C) {a d b:Addr} {t:List Row} {ws:List (List Nat)} {cs:List Int} (ht:Tb ws t) (hws:Ws ws) (hcs:cs.length<=100) (ha:H a=some (.list (t.map rowD))) (hb:H b=some (.list (strD ws))) (hd:H d=some (.list (cs.map D.int)))
  (h:∀d H',Tr t d->szD d<=1+4*cs.length->H.Le H'->Q d H'):C (n+4) f_l_tree_by [.ref a,.ref d,.ref b] H Q X:=by
 refine hC.intro (df:=d_l_tree_by) rfl rfl ?_
 have hlt:7 < ws.length:=by have:=hws.len;exact jl1 (jc1 _) (jK 8) j0 (jA (jK 7) (jK 1)) j0 rfl (Nat.le_of_eq (Eq.symm this))
 refine ⟨_,rfl,item_at (ns:=ns) hb (by decide) (strD_get hlt) fun e he=>?_⟩
 refine ⟨_,rfl,_,iter_ref (set_old hd he),tree_loop1 hC ht hws (ne_of ha he) (ne_of hb he) (ne_of hd he) cs 0 4 _ _ (set_old ha he) (set_old hb he) (set_old hd he) (by exact jl1 (jc1 _) j0 (jK 100) (jA (jA (jK 0) j0) (jK 1)) (jK 900) rfl hcs) (Nat.le_refl _) ⟨_,set_self',rfl,(fun d hd=>?_),Nat.le_refl 4⟩ fun d2 H2 h1 h3 h2=>h d2 H2 h1 (by exact jl1 (jc2 _ _) (jA j0 (jK 3)) (jA (jK 4) (jM 4 j1)) j0 (jA (jK 1) (jM 4 j1)) rfl h3) fun z x q=>h2 z x (ne_of q he) (set_old q he)⟩
 rw [List.mem_singleton.mp hd];exact .name _ (last_free ht hws (by decide) hlt)
theorem tree_by_spec (hC:CT ns defs C) {a d b:Addr} {t:List Row} {ws:List (List Nat)} {cs:List Int} (ht:Tb ws t) (hws:Ws ws) (hcs:cs.length<=100) (ha:H a=some (.list (t.map rowD))) (hb:H b=some (.list (strD ws))) (hd:H d=some (.list (cs.map D.int)))
  (h:∀d H',Tr t d->szD d<=1000->H.Le H'->Q d H'):C (n+4) f_l_tree_by [.ref a,.ref d,.ref b] H Q X:=
 tree_by_spec2 hC ht hws hcs ha hb hd fun d H' h1 h2=>h d H' h1 (by exact jl2 (jc2 _ _) j0 (jA (jK 1) (jM 4 j1)) (jM 4 j1) (jM 4 (jK 100)) j0 (jK 1000) rfl h2 (jm _ 4 j1 (jK 100) hcs))
noncomputable def sizesT:List (List Nat×Int):=[([98,101,102,111,114,101],3),([98,101,104,105,110,100],3),([98,101,116,119,101,101,110],4)]
theorem role_of {t:List Row} {r:Row} {b:Bool} (ht:Tb ws t) (hr:r∈t) (hb:b=ahead r):roleD t r.word b=rowD r:=by
 subst hb;unfold roleD;rw [ht.uniq r hr]
theorem pix0 {x:D} {l:List D}:pix (x::l).length 0=some 0:=pix_of _ (by decide) (by simp only [List.length_cons];exact jk80)
theorem pix1 {x y:D} {l:List D}:pix (x::y::l).length 1=some 1:=pix_of _ (by decide) (by simp only [List.length_cons];exact ul1 (uc1 ((_:Nat):Int)) (uK 0) u0 (uA (uK 1) (uK 1)) (uA (uA u0 (uK 1)) (uK 1)) rfl (Int.natCast_nonneg _))
theorem is_word_loop2 {c:CallT} {l:List Nat} {Y:Nat->Loc->Hp->Prop} (h:Q (.bool false) H):∀(r:List Nat) (v:Option D),(∃x∈r,x∉k_SIGNS) ->
  forL (D.str l) (l.map fun c=>D.str [c]) (bodyQ 1 (vSs ns c b_is_word_1) Y)
   (seqQ (vSs ns c b_is_word_0) (retQ Q) Y)
   (r.map fun c=>D.str [c]) [some (.str l),v] H
 | [],v,h'=>by obtain ⟨x,hx,_⟩:=h';cases hx
 | x::r,v,h'=>by
  refine ⟨rfl,_,rfl,!k_SIGNS.contains x,rfl,_,rfl,?_⟩
  by_cases hx:x∈k_SIGNS
  ·rw [if_neg (by simp [hx])]
   obtain ⟨y,hy,hn⟩:=h'
   rcases List.mem_cons.mp hy with rfl | hy
   ·exact absurd hx hn
   ·exact is_word_loop2 h r _ ⟨y,hy,hn⟩
  ·rw [if_pos (by simp [hx])]
   exact h
theorem is_word_not (hC:CT ns defs C) {l:List Nat} (hl:¬IsW l) (h:Q (.bool false) H):C (n+1) f_is_word [.str l] H Q X:=by
 refine hC.intro (df:=d_is_word) rfl rfl ?_
 refine ⟨_,rfl,true,rfl,true,rfl,false,rfl,_,rfl,decide ((1:Int)<=l.length),rfl,?_⟩
 by_cases h1:1<=l.length
 ·rw [if_pos (decide_eq_true (by exact jk72 h1))]
  refine ⟨decide ((l.length:Int)<=8),rfl,?_⟩
  by_cases h2:l.length<=8
  ·rw [show decide ((l.length:Int)<=8)=true from decide_eq_true (by exact jk73 h2)]
   refine ⟨true,rfl,false,rfl,_,rfl,l==tell,rfl,_,rfl,?_⟩
   by_cases h3:l=tell
   ·rw [if_pos (by simp [h3])];exact h
   ·rw [if_neg (by simpa using h3)]
    refine ⟨_,rfl,_,rfl,is_word_loop2 h l none (Classical.byContradiction fun q=>hl ⟨h1,h2,h3,fun c hc=>Classical.byContradiction fun z=>q ⟨c,hc,z⟩⟩)⟩
  ·rw [show decide ((l.length:Int)<=8)=false from decide_eq_false (by exact Int.not_le.mpr (ul1 (uc1 ((_:Nat):Int)) (uA (uK 8) (uK 1)) u0 (uA (uK 8) (uK 1)) u0 rfl (Int.ofNat_le.mpr (Nat.lt_of_not_le h2))))]
   exact ⟨false,rfl,true,rfl,true,rfl,h⟩
 ·rw [if_neg (by simp;exact ul1 (uc1 ((_:Nat):Int)) (uA u0 (uK 1)) (uK 1) (uA u0 (uK 1)) (uK 1) rfl (Int.ofNat_le.mpr (Nat.lt_of_not_le h1)))]
  exact ⟨false,rfl,true,rfl,true,rfl,h⟩
theorem is_word_other (hC:CT ns defs C) {d:D} (hd:isI H d 10=some false) (h:Q (.bool false) H):C (n+1) f_is_word [d] H Q X:=by
 refine hC.intro (df:=d_is_word) rfl rfl ?_
 exact ⟨_,rfl,false,hd,false,rfl,true,rfl,true,rfl,h⟩
theorem isN_of {t:List Row} {w:List Nat} {b:Bool}:vCmp .is (roleD t w b) .none H=some (roleF t w b).isNone:=by
 unfold roleD;cases roleF t w b <;> rfl
theorem isI_le {H H':Hp} {d:D} {c:Nat} {b:Bool} (hle:H.Le H') (h:isI H d c=some b):isI H' d c=some b:=by
 cases d <;> try exact h
 rename_i r
 replace h:(match H r with | some (.list _)=>if 10<=c/\c<=14 then some (c==14) else none | _=>none)=some b:=h
 show (match H' r with | some (.list _)=>if 10<=c/\c<=14 then some (c==14) else none | _=>none)=some b
 split at h
 ·rename_i l hl
  rw [hle r _ hl];exact h
 ·cases h
inductive powD (t:List Row):D->Int->Prop
 | str {w:List Nat}:powD t (.str w) 31
 | tup {tag:List Nat} {r:Row} {rest:List D} (hr:r∈t) (h1:(tag==before)=ahead r) (h2:(r.kind==behind)=(tag==behind)) (h3:tabGet sizesT tag=some ((D.str tag::D.str r.word::rest).length:Nat)):powD t (.tup (.str tag::.str r.word::rest)) r.pow
theorem Tr.pow {t:List Row} {d:D} (x:Tr t d):∃p,powD t d p:=by
 induction x using Tr.casesOn with
 | name w _=>exact ⟨31,.str⟩
 | one r x h k _=>
  refine ⟨r.pow,.tup h rfl rfl ?_⟩
  rcases k with k | k <;> rw [k] <;> rfl
 | two r x y h k1 k2 _ _=>
  refine ⟨r.pow,.tup h ?_ ?_ rfl⟩
  ·show false=(r.kind==before);simp [k1]
  ·show (r.kind==behind)=false;simp [k2]
theorem pow_cases {t:List Row} {d:D} {p:Int} (hp:powD t d p):(∃w,d=.str w/\p=31)\/∃tag r rest,r∈t/\d=.tup (.str tag::.str r.word::rest)/\r.pow=p/\(tag==before)=ahead r/\(r.kind==behind)=(tag==behind) /\
  tabGet sizesT tag=some ((D.str tag::D.str r.word::rest).length:Nat):=by
 induction hp with
 | str=>exact Or.inl ⟨_,rfl,rfl⟩
 | tup hr h1 h2 h3=>exact Or.inr ⟨_,_,_,hr,rfl,rfl,h1,h2,h3⟩
theorem l_strength_spec (hC:CT ns defs C) {a:Addr} {t:List Row} {d:D} {p:Int} (ht:Tb ws t) (hp:powD t d p) (ha:H a=some (.list (t.map rowD))) (h:Q (.int p) H):C (n+2) f_l_strength [.ref a,d] H Q X:=by
 refine hC.intro (df:=d_l_strength) rfl rfl ?_
 rcases pow_cases hp with ⟨w,rfl,rfl⟩ | ⟨tag,r,rest,hr,rfl,rfl,h1,h2,h3⟩
 ·exact ⟨_,rfl,true,rfl,true,rfl,h⟩
 ·refine ⟨_,rfl,false,rfl,false,rfl,_,rfl,_,rfl,1,_,pix1,rfl,_,rfl,0,_,pix0,rfl,tag==before,rfl,l_role_spec hC ha ?_⟩
  rw [role_of ht hr h1]
  exact ⟨2,_,rfl,rfl,h⟩
noncomputable def leftK:List Nat:=[108,101,102,116]
noncomputable def rightK:List Nat:=[114,105,103,104,116]
noncomputable def noneK:List Nat:=[110,111,110,101]
noncomputable def strict (k:List Nat) (pl:Nat):Bool:=k==noneK||(k==leftK&&(pl:Int)==1)||(k==rightK&&(pl:Int)==0)
noncomputable def enF (k:List Nat) (pl:Nat) (pow p:Int):Bool:=if strict k pl then decide (p > pow) else decide (p ≥ pow)
noncomputable def places (k:List Nat):Nat:=if k=before\/k=behind then 1 else 2
theorem enough_spec (hC:CT ns defs C) {r:Row} {pl:Nat} {p:Int} (h:Q (.bool (enF r.kind pl r.pow p)) H):C (n+1) f_enough [rowD r,.int pl,.int p] H Q X:=by
 refine hC.intro (df:=d_enough) rfl rfl ?_
 have yes:strict r.kind pl=true->vSs ns (C n) [.ret (.cmp .gt (.var 2) (.item (.var 0) (.lit (.int 2))))] [some (rowD r),some (.int pl),some (.int p)] H (retQ Q) fun k _ H'=>X k H':=fun q=>by
  unfold enF at h;rw [if_pos q] at h
  exact ⟨_,rfl,_,rfl,2,_,rfl,rfl,_,rfl,h⟩
 have no:strict r.kind pl=false->vSs ns (C n) b_enough_0 [some (rowD r),some (.int pl),some (.int p)] H (retQ Q) fun k _ H'=>X k H':=fun q=>by
  unfold enF at h;rw [if_neg (by simp [q])] at h
  exact ⟨_,rfl,_,rfl,2,_,rfl,rfl,_,rfl,h⟩
 unfold strict at yes no
 refine ⟨_,rfl,1,_,rfl,rfl,r.kind==noneK,rfl,_,rfl,?_⟩
 cases h1:r.kind==noneK with
 | true=>exact ⟨true,rfl,yes (by rw [h1];rfl)⟩
 | false=>
  refine ⟨_,rfl,1,_,rfl,rfl,r.kind==leftK,rfl,_,rfl,?_⟩
  have third:(r.kind==leftK&&(pl:Int)==1)=false->vE ns (C n) (fun k H'=>X k H') (.and (.cmp .eq (.item (.var 0) (.lit (.int 1))) (.lit (.str [114,105,103,104,116]))) (.cmp .eq (.var 1) (.lit (.int 0)))) [some (rowD r),some (.int pl),some (.int p)] H
    (fun x H'=>KB x fun q=>if q=true then vSs ns (C n) [.ret (.cmp .gt (.var 2) (.item (.var 0) (.lit (.int 2))))] [some (rowD r),some (.int pl),some (.int p)] H' (retQ Q) (fun k _ H'=>X k H') else vSs ns (C n) b_enough_0 [some (rowD r),some (.int pl),some (.int p)] H' (retQ Q) fun k _ H'=>X k H'):=by
   intro q
   refine ⟨_,rfl,1,_,rfl,rfl,r.kind==rightK,rfl,_,rfl,?_⟩
   cases h3:r.kind==rightK with
   | false=>exact ⟨false,rfl,no (by rw [h1,q,h3];rfl)⟩
   | true=>
    refine ⟨_,rfl,(pl:Int)==0,rfl,_,rfl,?_⟩
    cases h4:(pl:Int)==0 with
    | true=>exact yes (by rw [h1,q,h3,h4];rfl)
    | false=>exact no (by rw [h1,q,h3,h4];rfl)
  cases h2:r.kind==leftK with
  | false=>exact ⟨false,rfl,third (by rw [h2];rfl)⟩
  | true=>
   refine ⟨_,rfl,(pl:Int)==1,rfl,_,rfl,?_⟩
   cases h5:(pl:Int)==1 with
   | true=>exact ⟨true,rfl,yes (by rw [h1,h2,h5];rfl)⟩
   | false=>exact third (by rw [h2,h5];rfl)
theorem mem_bb {k:List Nat}:bb.contains k=(k==before||k==behind):=by
 unfold bb;rw [List.contains_cons,List.contains_cons];simp
theorem en_eq:∀k∈kinds,∀pl,pl < places k->∀pow:Int,enF k pl pow pow=(bb.contains k||k==[leftK,rightK].getD pl []):=by
 intro k hk pl hpl pow
 have e:enF k pl pow pow=!strict k pl:=by unfold enF;cases strict k pl <;> simp
 rw [e]
 have hp2:pl < 2:=by unfold places at hpl;split at hpl <;> (first | exact jk82 hpl | exact jk81 hpl)
 have:∀k∈kinds,∀pl < 2,pl < places k->(!strict k pl)=(bb.contains k||k==[leftK,rightK].getD pl []):=by decide
 exact this k hk pl hp2 hpl
theorem en_ne {k:List Nat} {pl:Nat} {pow p:Int} (h:(p==pow)=false):enF k pl pow p=decide (p > pow):=by
 have:p≠pow:=by simpa using h
 unfold enF;split
 ·rfl
 ·congr 1;apply propext;omega
theorem l_enough_spec (hC:CT ns defs C) {r:Row} {pl:Nat} {p:Int} (hr:r.kind∈kinds) (hpl:pl < places r.kind) (h:∀H',H.Le H'->Q (.bool (enF r.kind pl r.pow p)) H'):C (n+1) f_l_enough [rowD r,.int pl,.int p] H Q X:=by
 refine hC.intro (df:=d_l_enough) rfl rfl ?_
 refine ⟨_,rfl,_,rfl,2,_,rfl,rfl,p==r.pow,rfl,_,rfl,?_⟩
 cases hp:p==r.pow with
 | false=>
  refine ⟨_,rfl,_,rfl,2,_,rfl,rfl,_,rfl,?_⟩
  have:=h H (.refl _)
  rw [en_ne hp] at this
  exact this
 | true=>
  have hpe:p=r.pow:=by simpa using hp
  subst hpe
  rw [en_eq _ hr pl hpl] at h
  refine ⟨_,rfl,1,_,rfl,rfl,fun a ha=>⟨_,mem_new (l:=bb),_,rfl,?_⟩⟩
  have hle:H.Le (H.set a (.list (strD bb))):=.set _ ha
  cases hb:bb.contains r.kind with
  | true=>rw [hb] at h;exact h _ hle
  | false=>
   rw [hb] at h
   refine ⟨_,rfl,1,_,rfl,rfl,fun a2 ha2=>⟨_,rfl,?_⟩⟩
   have hp2:pl < 2:=by unfold places at hpl;split at hpl <;> (first | exact jk82 hpl | exact jk81 hpl)
   have hlt:(pl:Int).toNat < [leftK,rightK].length:=by show _ < 2;exact Int.ofNat_le.mp (ul2 (uc2 (((Int.toNat ((_:Nat):Int)):Nat):Int) ((_:Nat):Int)) (uA u1 (uK 1)) (uK 2) u0 u1 (uA u0 (uK 1)) (uK 2) rfl (Int.ofNat_le.mpr hp2) (Int.le_of_eq (Int.toNat_of_nonneg (ul1 (uc1 ((_:Nat):Int)) (uK 0) u0 (uK 0) u0 rfl (Int.natCast_nonneg _)))))
   have hle2:=hle.trans (Hp.Le.set (.list (strD [leftK,rightK])) ha2)
   refine item_at (ns:=ns) (l:=strD [leftK,rightK]) set_self' (by exact jk1) (strD_get hlt) ⟨_,rfl,?_⟩
   have:=h _ hle2
   have e:[leftK,rightK].getD pl []=[leftK,rightK][(pl:Int).toNat]:=by
    obtain rfl | rfl:pl=0\/pl=1:=by omega
    ·rfl
    ·rfl
   rw [e] at this
   exact this
inductive Tre where
 | name (w:List Nat)
 | one (r:Row) (x:Tre)
 | two (r:Row) (x y:Tre)
noncomputable def Tre.d:Tre->D
 | .name w=>.str w
 | .one r x=>.tup [.str r.kind,.str r.word,x.d]
 | .two r x y=>.tup [.str between,.str r.word,x.d,y.d]
noncomputable def Tre.ok (t:List Row):Tre->Prop
 | .name w=>IsNm t w
 | .one r x=>(r∈t/\(r.kind=before\/r.kind=behind))/\x.ok t
 | .two r x y=>(r∈t/\r.kind≠before/\r.kind≠behind)/\x.ok t/\y.ok t
noncomputable def Tre.pow:Tre->Int
 | .name _=>31
 | .one r _=>r.pow
 | .two r _ _=>r.pow
noncomputable def Tre.dep:Tre->Nat
 | .name _=>0
 | .one _ x=>x.dep+1
 | .two _ x y=>max x.dep y.dep+1
noncomputable def Tre.cnt:Tre->Nat
 | .name _=>1
 | .one _ x=>x.cnt+1
 | .two _ x y=>x.cnt+y.cnt+1
theorem Tr.tre {t:List Row} {d:D} (h:Tr t d):∃x:Tre,x.ok t/\x.d=d/\3*x.dep+1<=szD d/\x.cnt<=szD d:=by
 induction h with
 | name w h=>exact ⟨.name w,h,rfl,Nat.le_refl _,Nat.le_refl _⟩
 | one r x h k _ ih=>
  obtain ⟨y,h1,rfl,h3,h4⟩:=ih
  exact ⟨.one r y,⟨⟨h,k⟩,h1⟩,rfl,by show 3*(y.dep+1)+1<=1+(1+(1+(szD y.d+0)));exact jl1 (jc2 _ _) (jA (jM 3 j0) (jK 1)) j1 (jA (jM 3 (jA j0 (jK 1))) (jK 1)) (jA (jK 1) (jA (jK 1) (jA (jK 1) (jA j1 (jK 0))))) rfl h3,by show y.cnt+1<=1+(1+(1+(szD y.d+0)));exact jl1 (jc2 _ _) j0 j1 (jA j0 (jK 1)) (jA (jK 1) (jA (jK 1) (jA (jK 1) (jA j1 (jK 0))))) rfl h4⟩
 | two r x y h k1 k2 _ _ ih1 ih2=>
  obtain ⟨x',h1,rfl,h3,h4⟩:=ih1
  obtain ⟨y',g1,rfl,g3,g4⟩:=ih2
  exact ⟨.two r x' y',⟨⟨h,k1,k2⟩,h1,g1⟩,rfl,by show 3*(max x'.dep y'.dep+1)+1<=1+(1+(1+(szD x'.d+(szD y'.d+0))));omega,by show x'.cnt+y'.cnt+1<=1+(1+(1+(szD x'.d+(szD y'.d+0))));exact jl2 (jc4 _ _ _ _) j0 j2 j1 j3 (jA (jA j0 j1) (jK 1)) (jA (jK 1) (jA (jK 1) (jA (jK 1) (jA j2 (jA j3 (jK 0)))))) rfl h4 g4⟩
theorem Tre.powd {t:List Row}:∀{x:Tre},x.ok t->powD t x.d x.pow
 | .name _,_=>.str
 | .one r _,h=>.tup h.1.1 rfl rfl (by rcases h.1.2 with k | k <;> rw [k] <;> rfl)
 | .two r _ _,h=>.tup h.1.1 (by show false=(r.kind==before);simp [h.1.2.1]) (by show (r.kind==behind)=false;simp [h.1.2.2]) rfl
noncomputable def par (l:List (List Nat)):List (List Nat):=[[40]]++l++[[41]]
noncomputable def opr (b:Bool) (l:List (List Nat)):List (List Nat):=if b then l else par l
noncomputable def brk (m:Int) (l:List (List Nat)):List (List Nat):=if (decide (m > 0)&&((l.length:Int)*7+m) % 5==0)=true then par l else l
noncomputable def Tre.row (m:Int):Tre->List (List Nat)
 | .name w=>brk m [w]
 | .one r x=>brk m (if (r.kind==before)=true then [r.word]++opr (enF r.kind 0 r.pow x.pow) (x.row m) else opr (enF r.kind 0 r.pow x.pow) (x.row m)++[r.word])
 | .two r x y=>brk m (opr (enF r.kind 0 r.pow x.pow) (x.row m)++[r.word]++opr (enF r.kind 1 r.pow y.pow) (y.row m))
theorem par_len (l:List (List Nat)):(par l).length=l.length+2:=by unfold par;simp only [List.length_append,List.length_cons,List.length_nil];exact Nat.le_antisymm (jl0 (jc1 _) (jA (jA (jA (jK 0) (jK 1)) j0) (jA (jK 0) (jK 1))) (jA j0 (jK 2)) rfl) (jl0 (jc1 _) (jA j0 (jK 2)) (jA (jA (jA (jK 0) (jK 1)) j0) (jA (jK 0) (jK 1))) rfl)
theorem opr_len (b:Bool) (l:List (List Nat)):l.length<=(opr b l).length/\(opr b l).length<=l.length+2:=by
 unfold opr;split
 ·exact jk83
 ·rw [par_len];exact jk84
theorem brk_len (m:Int) (l:List (List Nat)):l.length<=(brk m l).length/\(brk m l).length<=l.length+2:=by
 unfold brk;split
 ·rw [par_len];exact jk84
 ·exact jk83
theorem row_len (m:Int):∀x:Tre,x.cnt<=(x.row m).length/\(x.row m).length<=7*x.cnt
 | .name w=>by have:=brk_len m [w];simp only [List.length_cons,List.length_nil] at this;exact ⟨by show 1<=(brk m [w]).length;exact jl1 (jc1 _) (jA (jK 0) (jK 1)) j0 (jK 1) j0 rfl this.1,by show (brk m [w]).length<=7;exact jl1 (jc1 _) j0 (jA (jA (jK 0) (jK 1)) (jK 2)) j0 (jK 7) rfl this.2⟩
 | .one r x=>by
  have h1:=row_len m x
  have h2:=opr_len (enF r.kind 0 r.pow x.pow) (x.row m)
  show x.cnt+1<=(brk m _).length/\(brk m _).length<=7*(x.cnt+1)
  split
  ·have:=brk_len m ([r.word]++opr (enF r.kind 0 r.pow x.pow) (x.row m))
   simp only [List.length_append,List.length_cons,List.length_nil] at this
   exact ⟨jl3 (jc4 _ _ _ _) (jA (jA (jK 0) (jK 1)) j2) j1 j0 j3 j3 j2 (jA j0 (jK 1)) j1 rfl this.1 h1.1 h2.1,jl3 (jc4 _ _ _ _) j0 (jA (jA (jA (jK 0) (jK 1)) j2) (jK 2)) j3 (jM 7 j1) j2 (jA j3 (jK 2)) j0 (jM 7 (jA j1 (jK 1))) rfl this.2 h1.2 h2.2⟩
  ·have:=brk_len m (opr (enF r.kind 0 r.pow x.pow) (x.row m)++[r.word])
   simp only [List.length_append,List.length_cons,List.length_nil] at this
   exact ⟨jl3 (jc4 _ _ _ _) (jA j2 (jA (jK 0) (jK 1))) j1 j0 j3 j3 j2 (jA j0 (jK 1)) j1 rfl this.1 h1.1 h2.1,jl3 (jc4 _ _ _ _) j0 (jA (jA j2 (jA (jK 0) (jK 1))) (jK 2)) j3 (jM 7 j1) j2 (jA j3 (jK 2)) j0 (jM 7 (jA j1 (jK 1))) rfl this.2 h1.2 h2.2⟩
 | .two r x y=>by
  have h1:=row_len m x
  have h2:=opr_len (enF r.kind 0 r.pow x.pow) (x.row m)
  have g1:=row_len m y
  have g2:=opr_len (enF r.kind 1 r.pow y.pow) (y.row m)
  show x.cnt+y.cnt+1<=(brk m _).length/\(brk m _).length<=7*(x.cnt+y.cnt+1)
  have:=brk_len m (opr (enF r.kind 0 r.pow x.pow) (x.row m)++[r.word]++opr (enF r.kind 1 r.pow y.pow) (y.row m))
  simp only [List.length_append,List.length_cons,List.length_nil] at this
  exact ⟨jl3 (jc7 _ _ _ _ _ _ _) (jA (jA j4 (jA (jK 0) (jK 1))) j6) j2 (jA j0 j3) (jA j3 j4) (jA j1 j5) (jA j5 j6) (jA (jA j0 j1) (jK 1)) j2 rfl this.1 (Nat.add_le_add h1.1 h2.1) (Nat.add_le_add g1.1 g2.1),jl3 (jc7 _ _ _ _ _ _ _) j0 (jA (jA (jA j4 (jA (jK 0) (jK 1))) j6) (jK 2)) (jA j3 j4) (jA (jM 7 j1) (jA j3 (jK 2))) (jA j5 j6) (jA (jM 7 j2) (jA j5 (jK 2))) j0 (jM 7 (jA (jA j1 j2) (jK 1))) rfl this.2 (Nat.add_le_add h1.2 h2.2) (Nat.add_le_add g1.2 g2.2)⟩
theorem add_rows {a b:Addr} {l m:List (List Nat)} (ha:H a=some (.list (strD l))) (hb:H b=some (.list (strD m))) (hz:l.length+m.length<=SZ) (h:∀c,H c=none->Q (.ref c) (H.set c (.list (strD (l++m))))):vBin .add (.ref a) (.ref b) H Q:=
 ⟨strD l,strD m,ha,hb,by unfold strD;rw [List.length_map,List.length_map];exact hz,fun c hc=>by have:=h c hc;unfold strD at this ⊢;rw [List.map_append] at this;exact this⟩
theorem par_spec {c':CallT} {Y:Nat->Hp->Prop} {loc:Loc} {i:Nat} {r:Addr} {l:List (List Nat)} (hi:lget loc i=some (.ref r)) (hr:H r=some (.list (strD l))) (hz:l.length<=100000) (h:∀a H',H.Le H'->H a=none->H' a=some (.list (strD (par l)))->Q (.ref a) H') :
  vE ns c' Y (.bin .add (.bin .add (.list [.lit (.str [40])]) (.var i)) (.list [.lit (.str [41])])) loc H Q:=by
 have hsz:SZ=1000000:=rfl
 intro a ha
 refine ⟨_,hi,add_rows (l:=[[40]]) set_self' (set_old hr ha) (by show 1+_<=_;exact jl2 (jc2 _ _) j0 (jK 100000) (jK 1000000) j1 (jA (jK 1) j0) j1 rfl hz (Nat.le_of_eq (Eq.symm hsz))) fun b hb=>?_⟩
 intro e he
 refine add_rows (m:=[[41]]) (set_old set_self' he) set_self' (by rw [List.length_append];show 1+_+1<=_;exact jl2 (jc2 _ _) j0 (jK 100000) (jK 1000000) j1 (jA (jA (jK 1) j0) (jK 1)) j1 rfl hz (Nat.le_of_eq (Eq.symm hsz))) fun f hf=>?_
 exact h f _ (le_set (le_set (le_set (.set _ ha) hb) he) hf) (none_of_le (le_set (le_set (.set _ ha) hb) he) hf) set_self'
section
variable {t:List Row} {ws:List (List Nat)} {a:Addr} {m:Int} {H0:Hp}
theorem row_fin {c':CallT} {r:Addr} {x:D} {l:List (List Nat)} {x4:Option D} {Y:Nat->Loc->Hp->Prop} (hle:H0.Le H) (hr0:H0 r=none) (hr:H r=some (.list (strD l))) (hz:l.length<=100000) (h:∀b H',H0.Le H'->H0 b=none->H' b=some (.list (strD (brk m l)))->Q (.ref b) H') :
  vSs ns c' b_l_row_by_1 [some (.ref a),some x,some (.int m),some (.ref r),x4] H (retQ Q) Y:=by
 have hl:(strD l).length=l.length:=by unfold strD;rw [List.length_map]
 refine ⟨_,rfl,decide (m > 0),rfl,_,rfl,?_⟩
 by_cases hm:m > 0
 ·rw [if_pos (decide_eq_true hm)]
  refine ⟨_,rfl,_,hr,mulOk_right (by decide),_,rfl,by decide,(((strD l).length:Int)*7+m) % 5==0,rfl,_,rfl,?_⟩
  rw [hl]
  have e:brk m l=if (((l.length:Int)*7+m) % 5==0)=true then par l else l:=by unfold brk;rw [decide_eq_true hm,Bool.true_and]
  rw [e] at h
  split
  ·rename_i hq
   rw [if_pos hq] at h
   exact par_spec rfl hr hz fun b H' hle' hb hb'=>⟨_,rfl,h b H' (hle.trans hle') (none_of_le hle hb) hb'⟩
  ·rename_i hq
   rw [if_neg hq] at h
   exact ⟨_,rfl,h r H hle hr0 hr⟩
 ·rw [if_neg (by simpa using hm)]
  have e:brk m l=l:=by unfold brk;rw [decide_eq_false hm,Bool.false_and];rfl
  rw [e] at h
  exact ⟨_,rfl,_,rfl,h r H hle hr0 hr⟩
theorem l_operand_spec (hC:CT ns defs C) {r:Row} {pl:Nat} {x:Tre} (ht:Tb ws t) (hk:r.kind∈kinds) (hpl:pl < places r.kind) (hx:x.ok t) (hz:(x.row m).length<=100000) (ha:H a=some (.list (t.map rowD)))
  (IH:∀{H Q X},H a=some (.list (t.map rowD))->(∀b H',H.Le H'->H b=none->H' b=some (.list (strD (x.row m)))->Q (.ref b) H')->C (n+2) f_l_row_by [.ref a,x.d,.int m] H Q X)
  (h:∀b H',H.Le H'->H b=none->H' b=some (.list (strD (opr (enF r.kind pl r.pow x.pow) (x.row m))))->Q (.ref b) H'):C (n+3) f_l_operand [.ref a,rowD r,.int pl,x.d,.int m] H Q X:=by
 refine hC.intro (df:=d_l_operand) rfl rfl ?_
 refine ⟨_,rfl,_,rfl,_,rfl,IH ha fun b H1 hle hb hb1=>?_⟩
 refine ⟨_,rfl,_,rfl,_,rfl,_,rfl,l_strength_spec hC ht (Tre.powd hx) (hle a _ ha) (l_enough_spec hC hk hpl fun H2 hle2=>⟨_,rfl,?_⟩)⟩
 cases e:enF r.kind pl r.pow x.pow with
 | true=>rw [e] at h;exact ⟨_,rfl,h b H2 (hle.trans hle2) hb (hle2 b _ hb1)⟩
 | false=>rw [e] at h;exact par_spec rfl (hle2 b _ hb1) hz fun c H3 hle3 hc hc3=>h c H3 ((hle.trans hle2).trans hle3) (none_of_le (hle.trans hle2) hc) hc3
theorem one_place {k:List Nat}:0 < places k:=by unfold places;split <;> (first | exact jl0 (jc1 0) (jA (jK 0) (jK 1)) (jK 1) rfl | exact jl0 (jc1 0) (jA (jK 0) (jK 1)) (jK 2) rfl)
theorem two_place {k:List Nat} (h1:k≠before) (h2:k≠behind):1 < places k:=by unfold places;rw [if_neg (by simp [h1,h2])];exact jl0 (jc1 0) (jA (jK 1) (jK 1)) (jK 2) rfl
theorem row_by_spec (hC:CT ns defs C) (ht:Tb ws t):∀(x:Tre) {N:Nat} {H:Hp} {Q:D->Hp->Prop} {X:Nat->Hp->Prop},x.ok t->2*x.dep+2<=N->x.cnt<=10000->H a=some (.list (t.map rowD)) ->
  (∀b H',H.Le H'->H b=none->H' b=some (.list (strD (x.row m)))->Q (.ref b) H')->C N f_l_row_by [.ref a,x.d,.int m] H Q X
 | .name w,N,H,Q,X,hx,hN,hz,ha,h=>by
  obtain ⟨n,rfl⟩:∃n,N=n+1:=⟨N - 1,by exact Nat.le_antisymm (jl1 (jc2 _ (_ - (1:Nat))) j0 (jA j1 (jK 1)) j0 (jA j1 (jK 1)) rfl (Nat.le_add_of_sub_le (Nat.le_refl (_ - (1:Nat))))) (jl1 (jc2 (_ - (1:Nat)) _) (jA j0 (jK 1)) j1 (jA j0 (jK 1)) j1 rfl (Nat.le_of_eq (Nat.sub_add_cancel (jl1 (jc2 _ _) (jA (jM 2 j1) (jK 2)) j0 (jK 1) j0 rfl hN))))⟩
  refine hC.intro (df:=d_l_row_by) rfl rfl ?_
  exact ⟨_,rfl,true,rfl,true,rfl,_,rfl,fun b hb=>row_fin (l:=[w]) (.set _ hb) hb set_self' (by show 1<=_;exact jl0 (jc1 0) (jK 1) (jK 100000) rfl) h⟩
 | .one r x,N,H,Q,X,hx,hN,hz,ha,h=>by
  have hsz:SZ=1000000:=rfl
  obtain ⟨n,rfl⟩:∃n,N=n+4:=⟨N - 4,by simp only [Tre.dep] at hN;exact Nat.le_antisymm (jl1 (jc2 _ (_ - (4:Nat))) j0 (jA j1 (jK 4)) j0 (jA j1 (jK 4)) rfl (Nat.le_add_of_sub_le (Nat.le_refl (_ - (4:Nat))))) (jl1 (jc2 (_ - (4:Nat)) _) (jA j0 (jK 4)) j1 (jA j0 (jK 4)) j1 rfl (Nat.le_of_eq (Nat.sub_add_cancel (jl1 (jc2 _ _) (jA (jM 2 (jA j1 (jK 1))) (jK 2)) j0 (jK 4) j0 rfl hN))))⟩
  have hc:x.cnt+1<=10000:=hz
  have hd:2*(x.dep+1)+2<=n+4:=hN
  have hl:=(row_len m x).2
  refine hC.intro (df:=d_l_row_by) rfl rfl ?_
  refine ⟨_,rfl,false,rfl,false,rfl,_,rfl,_,rfl,1,_,rfl,rfl,_,rfl,0,_,rfl,rfl,r.kind==before,rfl,l_role_spec hC ha ?_⟩
  rw [role_of (b:=r.kind==before) ht hx.1.1 rfl]
  refine ⟨_,rfl,_,rfl,_,rfl,2,_,rfl,rfl,_,rfl,l_operand_spec hC (pl:=0) ht (ht.tel r hx.1.1).kind one_place hx.2 (by exact jl2 (jc2 _ _) (jM 7 (jA j1 (jK 1))) (jM 7 (jK 10000)) j0 (jM 7 j1) j0 (jK 100000) rfl (jm _ 7 (jA j1 (jK 1)) (jK 10000) hc) hl) ha (fun ha h=>row_by_spec hC ht x hx.2 (by exact jl1 (jc2 _ _) (jA (jM 2 (jA j0 (jK 1))) (jK 2)) (jA j1 (jK 4)) (jA (jM 2 j0) (jK 2)) (jA j1 (jK 2)) rfl hd) (by exact jk85 hc) ha h) fun b H1 hle hb hb1=>?_⟩
  have ho:=(opr_len (enF r.kind 0 r.pow x.pow) (x.row m)).2
  have hbt:(r.kind==between)=false:=by rcases hx.1.2 with k | k <;> rw [k] <;> rfl
  refine ⟨_,rfl,0,_,rfl,rfl,r.kind==before,rfl,_,rfl,?_⟩
  have e:(Tre.one r x).row m=brk m (if (r.kind==before)=true then [r.word]++opr (enF r.kind 0 r.pow x.pow) (x.row m) else opr (enF r.kind 0 r.pow x.pow) (x.row m)++[r.word]):=rfl
  rw [e] at h
  split
  ·rename_i hk
   rw [if_pos hk] at h
   refine ⟨_,rfl,1,_,rfl,rfl,fun f hf=>⟨_,rfl,add_rows (l:=[r.word]) set_self' (set_old hb1 hf) (by show 1+_<=_;exact jl3 (jc4 _ _ _ _) (jK 1000000) j1 j3 (jM 7 j2) (jA (jM 7 (jA j2 (jK 1))) j0) (jA (jM 7 (jK 10000)) (jA j3 (jK 2))) (jA (jK 1) j0) j1 rfl (Nat.le_of_eq (Eq.symm hsz)) hl (Nat.add_le_add (jm _ 7 (jA j2 (jK 1)) (jK 10000) hc) ho)) fun g hg=>?_⟩⟩
   refine ⟨_,rfl,0,_,rfl,rfl,r.kind==between,rfl,_,rfl,?_⟩
   rw [hbt]
   exact row_fin (le_set (le_set hle hf) hg) (none_of_le (le_set hle hf) hg) set_self' (by rw [List.length_append];show 1+_<=_;exact jl3 (jc3 _ _ _) (jM 7 (jA j1 (jK 1))) (jM 7 (jK 10000)) j0 (jA j2 (jK 2)) j2 (jM 7 j1) (jA (jK 1) j0) (jK 100000) rfl (jm _ 7 (jA j1 (jK 1)) (jK 10000) hc) ho hl) h
  ·rename_i hk
   rw [if_neg hk] at h
   refine ⟨_,rfl,_,rfl,1,_,rfl,rfl,fun f hf=>add_rows (m:=[r.word]) (set_old hb1 hf) set_self' (by show _+1<=_;exact jl3 (jc4 _ _ _ _) (jK 1000000) j1 j3 (jM 7 j2) (jA (jM 7 (jA j2 (jK 1))) j0) (jA (jM 7 (jK 10000)) (jA j3 (jK 2))) (jA j0 (jK 1)) j1 rfl (Nat.le_of_eq (Eq.symm hsz)) hl (Nat.add_le_add (jm _ 7 (jA j2 (jK 1)) (jK 10000) hc) ho)) fun g hg=>?_⟩
   refine ⟨_,rfl,0,_,rfl,rfl,r.kind==between,rfl,_,rfl,?_⟩
   rw [hbt]
   exact row_fin (le_set (le_set hle hf) hg) (none_of_le (le_set hle hf) hg) set_self' (by rw [List.length_append];show _+1<=_;exact jl3 (jc3 _ _ _) (jM 7 (jA j1 (jK 1))) (jM 7 (jK 10000)) j0 (jA j2 (jK 2)) j2 (jM 7 j1) (jA j0 (jK 1)) (jK 100000) rfl (jm _ 7 (jA j1 (jK 1)) (jK 10000) hc) ho hl) h
 | .two r x y,N,H,Q,X,hx,hN,hz,ha,h=>by
  have hsz:SZ=1000000:=rfl
  obtain ⟨n,rfl⟩:∃n,N=n+4:=⟨N - 4,by simp only [Tre.dep] at hN;exact Nat.le_antisymm (jl1 (jc2 _ (_ - (4:Nat))) j0 (jA j1 (jK 4)) j0 (jA j1 (jK 4)) rfl (Nat.le_add_of_sub_le (Nat.le_refl (_ - (4:Nat))))) (jl1 (jc2 (_ - (4:Nat)) _) (jA j0 (jK 4)) j1 (jA j0 (jK 4)) j1 rfl (Nat.le_of_eq (Nat.sub_add_cancel (jl1 (jc2 _ (max _ _)) (jA (jM 2 (jA j1 (jK 1))) (jK 2)) j0 (jK 4) j0 rfl hN))))⟩
  have hc:x.cnt+y.cnt+1<=10000:=hz
  have hd:2*(max x.dep y.dep+1)+2<=n+4:=hN
  have hl:=(row_len m x).2
  have hl2:=(row_len m y).2
  refine hC.intro (df:=d_l_row_by) rfl rfl ?_
  refine ⟨_,rfl,false,rfl,false,rfl,_,rfl,_,rfl,1,_,rfl,rfl,_,rfl,0,_,rfl,rfl,false,rfl,l_role_spec hC ha ?_⟩
  rw [role_of (b:=false) ht hx.1.1 (by unfold ahead;simp [hx.1.2.1])]
  refine ⟨_,rfl,_,rfl,_,rfl,2,_,rfl,rfl,_,rfl,l_operand_spec hC (pl:=0) ht (ht.tel r hx.1.1).kind one_place hx.2.1 (by exact jl2 (jc3 _ _ _) (jM 7 (jA (jA j1 j2) (jK 1))) (jM 7 (jK 10000)) j0 (jM 7 j1) j0 (jK 100000) rfl (jm _ 7 (jA (jA j1 j2) (jK 1)) (jK 10000) hc) hl) ha (fun ha h=>row_by_spec hC ht x hx.2.1 (by exact jl2 (jc3 _ _ (max _ _)) (jA (jM 2 (jA j2 (jK 1))) (jK 2)) (jA j1 (jK 4)) (jM 2 j0) (jM 2 j2) (jA (jM 2 j0) (jK 2)) (jA j1 (jK 2)) rfl hd (jm _ 2 j0 j2 (Nat.le_max_left _ _))) (by exact jl1 (jc2 _ _) (jA (jA j0 j1) (jK 1)) (jK 10000) j0 (jK 10000) rfl hc) ha h) fun b H1 hle hb hb1=>?_⟩
  have ho:=(opr_len (enF r.kind 0 r.pow x.pow) (x.row m)).2
  have ho2:=(opr_len (enF r.kind 1 r.pow y.pow) (y.row m)).2
  refine ⟨_,rfl,0,_,rfl,rfl,false,rfl,_,rfl,?_⟩
  refine ⟨_,rfl,_,rfl,1,_,rfl,rfl,fun f hf=>add_rows (m:=[r.word]) (set_old hb1 hf) set_self' (by show _+1<=_;exact jl3 (jc5 _ _ _ _ _) (jK 1000000) j1 j4 (jM 7 j2) (jA (jM 7 (jA (jA j2 j3) (jK 1))) j0) (jA (jM 7 (jK 10000)) (jA j4 (jK 2))) (jA j0 (jK 1)) j1 rfl (Nat.le_of_eq (Eq.symm hsz)) hl (Nat.add_le_add (jm _ 7 (jA (jA j2 j3) (jK 1)) (jK 10000) hc) ho)) fun g hg=>?_⟩
  have hle2:=le_set (o:=.list (strD (opr (enF r.kind 0 r.pow x.pow) (x.row m)++[r.word]))) (le_set (o:=.list (strD [r.word])) hle hf) hg
  refine ⟨_,rfl,0,_,rfl,rfl,true,rfl,_,rfl,?_⟩
  refine ⟨_,rfl,_,rfl,_,rfl,_,rfl,3,_,rfl,rfl,_,rfl,l_operand_spec hC (pl:=1) ht (ht.tel r hx.1.1).kind (two_place hx.1.2.1 hx.1.2.2) hx.2.2 (by exact jl2 (jc3 _ _ _) (jM 7 (jA (jA j1 j2) (jK 1))) (jM 7 (jK 10000)) j0 (jM 7 j2) j0 (jK 100000) rfl (jm _ 7 (jA (jA j1 j2) (jK 1)) (jK 10000) hc) hl2) (hle2 a _ ha) (fun ha h=>row_by_spec hC ht y hx.2.2 (by exact jl2 (jc3 _ _ (max _ _)) (jA (jM 2 (jA j2 (jK 1))) (jK 2)) (jA j1 (jK 4)) (jM 2 j0) (jM 2 j2) (jA (jM 2 j0) (jK 2)) (jA j1 (jK 2)) rfl hd (jm _ 2 j0 j2 (Nat.le_max_right _ _))) (by exact jl1 (jc2 _ _) (jA (jA j1 j0) (jK 1)) (jK 10000) j0 (jK 10000) rfl hc) ha h) fun q H2 hle3 hq hq2=>?_⟩
  refine add_rows (hle3 g _ set_self') hq2 (by rw [List.length_append];show _+1+_<=_;omega) fun i hi=>?_
  exact row_fin (le_set (hle2.trans hle3) hi) (none_of_le (hle2.trans hle3) hi) set_self' (by rw [List.length_append,List.length_append];show _+1+_<=_;exact jl3 (jc6 _ _ _ _ _ _) j1 (jA j5 (jK 2)) (jA (jM 7 (jA (jA j2 j3) (jK 1))) j4) (jA (jM 7 (jK 10000)) (jM 7 j2)) (jA j5 j0) (jA (jM 7 j3) (jA j4 (jK 2))) (jA (jA j0 (jK 1)) j1) (jK 100000) rfl ho2 (Nat.add_le_add (jm _ 7 (jA (jA j2 j3) (jK 1)) (jK 10000) hc) hl) (Nat.add_le_add hl2 ho)) h
end
noncomputable def exN (k:Nat):Int:=(if (1==0||1==k||1==15)=true then 1 else 0)+(if (2==0||2==k||2==15)=true then 1 else 0)+(if (3==0||3==k||3==15)=true then 1 else 0)+(if (4==0||4==k||4==15)=true then 1 else 0)+(if (5==0||5==k||5==15)=true then 1 else 0)+(if (6==0||6==k||6==15)=true then 1 else 0)
theorem exN_one:∀k,k<=6->1<=k->(exN k==1)=true:=by decide
theorem alone_spec (hC:CT ns defs C) {e:Addr} {k:Nat} (h1:1<=k) (h2:k<=6) (h:Q (.bool true) H):C (n+1) f_l_alone [.exc e k] H Q X:=by
 refine hC.intro (df:=d_l_alone) rfl rfl ?_
 have hi:∀c,c<=6\/c=15->isI H (.exc e k) c=some (c==0||c==k||c==15):=fun c hc=>if_pos ⟨h2,hc⟩
 refine ⟨_,rfl,_,hi 1 (by decide),_,rfl,_,hi 2 (by decide),_,rfl,_,hi 3 (by decide),?_⟩
 refine ⟨_,rfl,_,rfl,_,hi 4 (by decide),_,rfl,_,hi 5 (by decide),_,rfl,_,hi 6 (by decide),?_⟩
 refine ⟨_,rfl,true,?_,_,rfl,_,rfl,_,hi 15 (by decide),?_⟩
 ·exact congrArg some (exN_one k h2 h1)
 ·rw [show ((15==0||15==k||15==15):Bool)=true from Bool.or_true _];exact h
theorem hs_none {c':CallT} {l:Loc} {b:List St} {hs:List Hd} {k k':Nat} {K:Fl->Loc->Hp->Prop} (hk:subc k k'=true) (h:vSs ns c' b l H (fun fl l' H'=>K fl l' H') fun _ _ _=>False):vHs ns c' (.mk k' none b::hs) k l H K:=by
 rw [vHs_cons,if_pos hk];exact fun _=>h
theorem hs_some {c':CallT} {l:Loc} {b:List St} {hs:List Hd} {k k' i:Nat} {K:Fl->Loc->Hp->Prop} (hk:subc k k'=true) (h:∀e,vSs ns c' b (l.set i (some (.exc e k))) H (fun fl l' H'=>K fl (l'.map fun _=>none) H') fun _ _ _=>False):vHs ns c' (.mk k' (some i) b::hs) k l H K:=by
 rw [vHs_cons,if_pos hk];exact h
theorem eqvs_rows:∀t:List Row,eqvs0 (t.map rowD) (t.map rowD)=true
 | []=>rfl
 | r::t=>by
  show (eqv0 (rowD r) (rowD r)&&eqvs0 (t.map rowD) (t.map rowD))=true
  rw [eqvs_rows t,Bool.and_true]
  show (tell==tell&&(r.kind==r.kind&&(r.pow==r.pow&&(r.word==r.word&&true))))=true
  rw [beq_self_eq_true,beq_self_eq_true,beq_self_eq_true,beq_self_eq_true];rfl
theorem eq_rows {a b:Addr} {t:List Row} (ha:H a=some (.list (t.map rowD))) (hb:H b=some (.list (t.map rowD))):eqD H (.ref a) (.ref b)=some true:=by
 rw [eqD_ref ha hb okF_row okF_row,eqvs_rows];simp
theorem ne_rows {a b:Addr} {t:List Row} (ha:H a=some (.list (t.map rowD))) (hb:H b=some (.list (t.map rowD))):vCmp .ne (.ref a) (.ref b) H=some false:=by
 show (eqD H (.ref a) (.ref b)).map _=_;rw [eq_rows ha hb];rfl
noncomputable def lrF (r:Row):Int:=if enF r.kind 1 r.pow r.pow=true then r.pow else r.pow+1
noncomputable abbrev Wd:=List Nat
inductive Rb where
 | beg
 | aft (x:Tre) (p:Int)
inductive Ro where
 | no
 | ok (x:Tre) (p:Int) (r:List Wd)
inductive Rd (t:List Row):Rb->Int->List Wd->Ro->Prop
 | nil {m:Int}:Rd t .beg m [] .no
 | parF {m:Int} {l:List Wd} (h:Rd t .beg 1 l .no):Rd t .beg m ([40]::l) .no
 | parE {m:Int} {l r:List Wd} {x:Tre} {p:Int} (h:Rd t .beg 1 l (.ok x p r)) (hr:r.head?≠some [41]):Rd t .beg m ([40]::l) .no
 | par {m:Int} {l r:List Wd} {x:Tre} {p:Int} {o:Ro} (h:Rd t .beg 1 l (.ok x p ([41]::r))) (hr:Rd t (.aft x 31) m r o):Rd t .beg m ([40]::l) o
 | name {m:Int} {w:Wd} {l:List Wd} {o:Ro} (h:IsNm t w) (hr:Rd t (.aft (.name w) 31) m l o):Rd t .beg m (w::l) o
 | no {m:Int} {w:Wd} {l:List Wd} (h0:w≠[40]) (h1:¬IsNm t w) (h2:∀r,roleF t w true=some r->r.pow < m):Rd t .beg m (w::l) .no
 | befF {m:Int} {w:Wd} {l:List Wd} {r:Row} (h:roleF t w true=some r) (hm:m<=r.pow) (hr:Rd t .beg r.pow l .no):Rd t .beg m (w::l) .no
 | bef {m:Int} {w:Wd} {l l':List Wd} {r:Row} {x:Tre} {p:Int} {o:Ro} (h:roleF t w true=some r) (hm:m<=r.pow) (hr:Rd t .beg r.pow l (.ok x p l')) (hl:Rd t (.aft (.one r x) r.pow) m l' o):Rd t .beg m (w::l) o
 | fin {m:Int} {x:Tre} {p:Int}:Rd t (.aft x p) m [] (.ok x p [])
 | stop {m:Int} {x:Tre} {p:Int} {w:Wd} {l:List Wd} (h:∀r,roleF t w false=some r->r.pow < m\/enF r.kind 0 r.pow p=false):Rd t (.aft x p) m (w::l) (.ok x p (w::l))
 | beh {m:Int} {x:Tre} {p:Int} {w:Wd} {l:List Wd} {r:Row} {o:Ro} (h:roleF t w false=some r) (hm:m<=r.pow) (he:enF r.kind 0 r.pow p=true) (hk:r.kind=behind) (hr:Rd t (.aft (.one r x) r.pow) m l o):Rd t (.aft x p) m (w::l) o
 | twoF {m:Int} {x:Tre} {p:Int} {w:Wd} {l:List Wd} {r:Row} (h:roleF t w false=some r) (hm:m<=r.pow) (he:enF r.kind 0 r.pow p=true) (hk:r.kind≠behind) (hr:Rd t .beg (lrF r) l .no):Rd t (.aft x p) m (w::l) .no
 | two {m:Int} {x y:Tre} {p q:Int} {w:Wd} {l l':List Wd} {r:Row} {o:Ro} (h:roleF t w false=some r) (hm:m<=r.pow) (he:enF r.kind 0 r.pow p=true) (hk:r.kind≠behind) (hr:Rd t .beg (lrF r) l (.ok y q l')) (hl:Rd t (.aft (.two r x y) r.pow) m l' o):Rd t (.aft x p) m (w::l) o
inductive Der (t:List Row):Tre->Int->Int->List Wd->Prop
 | name {w:Wd} (h:IsNm t w):Der t (.name w) 31 32 [w]
 | par {x:Tre} {p q:Int} {l:List Wd} (h:Der t x p q l):Der t x 31 32 ([40]::(l++[[41]]))
 | bef {r:Row} {x:Tre} {p q:Int} {l:List Wd} (hr:r∈t) (hk:r.kind=before) (he:enF r.kind 0 r.pow p=true) (h:Der t x p q l):Der t (.one r x) r.pow r.pow (r.word::l)
 | beh {r:Row} {x:Tre} {p q:Int} {l:List Wd} (hr:r∈t) (hk:r.kind=behind) (he:enF r.kind 0 r.pow p=true) (h:Der t x p q l):Der t (.one r x) r.pow 32 (l++[r.word])
 | two {r:Row} {x y:Tre} {p q p' q':Int} {l l':List Wd} (hr:r∈t) (h1:r.kind≠before) (h2:r.kind≠behind) (he:enF r.kind 0 r.pow p=true) (he':enF r.kind 1 r.pow p'=true) (h:Der t x p q l) (h':Der t y p' q' l'):Der t (.two r x y) r.pow (lrF r) (l++r.word::l')
section
variable {t:List Row} {ws:List (List Nat)}
theorem role_mem {w:Wd} {b:Bool} {r:Row} (h:roleF t w b=some r):r∈t/\r.word=w/\ahead r=b:=by
 have h1:=List.mem_of_find?_eq_some h
 have h2:=List.find?_some h
 rw [Bool.and_eq_true_iff] at h2
 exact ⟨h1,by simpa using h2.1,by simpa using h2.2⟩
theorem en_le {k:List Nat} {pl:Nat} {pow p:Int} (h:enF k pl pow p=true):pow<=p:=by
 unfold enF at h;split at h
 ·have:=of_decide_eq_true h;exact ul1 (uc2 _ _) (uA u0 (uK 1)) u1 u0 u1 rfl this
 ·have:=of_decide_eq_true h;exact jk86 this
theorem lr_ge (r:Row):r.pow<=lrF r/\lrF r<=r.pow+1:=by unfold lrF;split <;> (first | exact ⟨ul0 (uc1 _) u0 u0 rfl,ul0 (uc1 _) u0 (uA u0 (uK 1)) rfl⟩ | exact ⟨ul0 (uc1 _) u0 (uA u0 (uK 1)) rfl,ul0 (uc1 _) (uA u0 (uK 1)) (uA u0 (uK 1)) rfl⟩)
theorem lr_le {r:Row} {p:Int} (h:enF r.kind 1 r.pow p=true):lrF r<=p:=by
 unfold lrF enF;unfold enF at h
 cases hs:strict r.kind 1 with
 | true=>rw [hs,if_pos rfl] at h;have:=of_decide_eq_true h;simp;exact ul1 (uc2 _ _) (uA u0 (uK 1)) u1 (uA u0 (uK 1)) u1 rfl this
 | false=>rw [hs] at h;have:=of_decide_eq_true h;simp;exact jk86 this
theorem sign_out {w:Wd} {c:Nat} (hw:IsW w) (hc:c∉k_SIGNS):w≠[c]:=fun q=>hc (hw.sg c (by rw [q];exact List.mem_singleton_self c))
theorem role_out (ht:Tb ws t) {c:Nat} {b:Bool} (hc:c∉k_SIGNS):roleF t [c] b=none:=by
 cases h:roleF t [c] b with
 | none=>rfl
 | some r=>obtain ⟨h1,h2,_⟩:=role_mem h;exact absurd h2 (sign_out (ht.tel r h1).word hc)
theorem n40:40∉k_SIGNS:=by decide
theorem n41:41∉k_SIGNS:=by decide
theorem nm_not {w:Wd} {r:Row} (hr:r∈t) (ht:Tb ws t) (hw:r.word=w) (h:IsNm t w):False:=by
 have:=ht.uniq r hr
 rw [hw] at this
 cases hb:ahead r with
 | true=>rw [hb,h.r1] at this;cases this
 | false=>rw [hb,h.r2] at this;cases this
noncomputable def Stp (t:List Row) (q:Int) (l:List Wd):Prop:=∀w r,l.head?=some w->roleF t w false=some r->r.pow < q
theorem Stp.mono {q q':Int} {l:List Wd} (h:Stp t q l) (hq:q<=q'):Stp t q' l:=fun w r h1 h2=>by have:=h w r h1 h2;exact jk87 this hq
theorem Stp.nil {q:Int}:Stp t q []:=fun _ _ h=>by cases h
theorem Stp.close (ht:Tb ws t) {q:Int} {l:List Wd}:Stp t q ([41]::l):=fun w r h1 h2=>by
 cases h1;rw [role_out ht n41] at h2;cases h2
theorem Stp.go {q:Int} {l:List Wd} {x:Tre} {p:Int} (h:Stp t q l):Rd t (.aft x p) q l (.ok x p l):=by
 cases l with
 | nil=>exact .fin
 | cons w l=>exact .stop fun s hs=>Or.inl (h w s rfl hs)
inductive RdS (t:List Row) (m:Int) (w:Wd) (l:List Wd) (o:Ro):Prop
 | k1 (e:w=[40]) (h:Rd t .beg 1 l .no)
 | k2 (e:w=[40]) (x:Tre) (p:Int) (r:List Wd) (h:Rd t .beg 1 l (.ok x p r)) (hr:r.head?≠some [41])
 | k3 (e:w=[40]) (x:Tre) (p:Int) (r:List Wd) (h:Rd t .beg 1 l (.ok x p ([41]::r))) (h':Rd t (.aft x 31) m r o)
 | k4 (h:IsNm t w) (h':Rd t (.aft (.name w) 31) m l o)
 | k5 (h0:w≠[40]) (h1:¬IsNm t w) (h2:∀r,roleF t w true=some r->r.pow < m)
 | k6 (r:Row) (h:roleF t w true=some r) (h':Rd t .beg r.pow l .no)
 | k7 (r:Row) (x:Tre) (p:Int) (l':List Wd) (h:roleF t w true=some r) (h1:Rd t .beg r.pow l (.ok x p l')) (h2:Rd t (.aft (.one r x) r.pow) m l' o)
inductive RdM (t:List Row) (x:Tre) (p:Int) (m:Int) (l:List Wd) (o:Ro):Prop
 | k1 (e:o=.ok x p l) (h:∀w r,l.head?=some w->roleF t w false=some r->r.pow < m\/enF r.kind 0 r.pow p=false)
 | k2 (w:Wd) (l':List Wd) (r:Row) (e:l=w::l') (h:roleF t w false=some r) (hm:m<=r.pow) (hk:r.kind=behind) (h':Rd t (.aft (.one r x) r.pow) m l' o)
 | k3 (w:Wd) (l':List Wd) (r:Row) (e:l=w::l') (h:roleF t w false=some r) (hm:m<=r.pow) (hk:r.kind≠behind) (h':Rd t .beg (lrF r) l' .no)
 | k4 (w:Wd) (l':List Wd) (r:Row) (y:Tre) (q:Int) (l2:List Wd) (e:l=w::l') (h:roleF t w false=some r) (hm:m<=r.pow) (hk:r.kind≠behind) (h1:Rd t .beg (lrF r) l' (.ok y q l2)) (h2:Rd t (.aft (.two r x y) r.pow) m l2 o)
noncomputable def RdI (t:List Row) (st:Rb) (m:Int) (l:List Wd) (o:Ro):Prop:=match st with
 | .beg=>match l with
  | []=>True
  | w::l=>RdS t m w l o
 | .aft x p=>RdM t x p m l o
theorem Rd.inv {st:Rb} {m:Int} {l:List Wd} {o:Ro} (h:Rd t st m l o):RdI t st m l o:=by
 induction h using Rd.casesOn with
 | nil=>exact trivial
 | parF h=>exact RdS.k1 rfl h
 | parE h hr=>exact RdS.k2 rfl _ _ _ h hr
 | par h hr=>exact RdS.k3 rfl _ _ _ h hr
 | name h hr=>exact RdS.k4 h hr
 | no h0 h1 h2=>exact RdS.k5 h0 h1 h2
 | befF h hm hr=>exact RdS.k6 _ h hr
 | bef h hm hr hl=>exact RdS.k7 _ _ _ _ h hr hl
 | fin=>exact RdM.k1 rfl fun _ _ q=>by cases q
 | stop h=>exact RdM.k1 rfl fun _ r q=>by cases q;exact h r
 | beh h hm he hk hr=>exact RdM.k2 _ _ _ rfl h hm hk hr
 | twoF h hm he hk hr=>exact RdM.k3 _ _ _ rfl h hm hk hr
 | two h hm he hk hr hl=>exact RdM.k4 _ _ _ _ _ _ rfl h hm hk hr hl
theorem Stp.inv {q:Int} {l:List Wd} {x:Tre} {p:Int} {o:Ro} (h:Stp t q l) (hr:Rd t (.aft x p) q l o):o=.ok x p l:=by
 have no:∀{P:Prop} {w l' r},l=w::l'->roleF t w false=some r->q<=r.pow->P:=fun e h1 hm=>by rw [e] at h;exact absurd hm (Int.not_le.mpr (h _ _ rfl h1))
 exact RdM.casesOn (motive:=fun _=>_) hr.inv (fun e _=>e) (fun _ _ _ e h1 hm _ _=>no e h1 hm) (fun _ _ _ e h1 hm _ _=>no e h1 hm) fun _ _ _ _ _ _ e h1 hm _ _ _=>no e h1 hm
theorem Der.need (ht:Tb ws t) {x:Tre} {p q:Int} {l:List Wd} (h:Der t x p q l):(p<=q/\p<=31)/\∀s∈t,ahead s=false->enF s.kind 0 s.pow p=true->s.pow < q:=by
 have strong:∀{s:Row},s∈t->s.pow < 32:=fun hs=>by have:=(ht.tel _ hs).hi;exact ul1 (uc1 _) u0 (uK 30) (uA u0 (uK 1)) (uK 32) rfl this
 induction h using Der.casesOn with
 | name _=>exact ⟨⟨by exact jk88,by exact jk89⟩,fun s hs _ _=>strong hs⟩
 | par _=>exact ⟨⟨by exact jk88,by exact jk89⟩,fun s hs _ _=>strong hs⟩
 | beh hr hk he h=>exact ⟨⟨by have:=(ht.tel _ hr).hi;exact ul1 (uc1 _) u0 (uK 30) u0 (uK 32) rfl this,by have:=(ht.tel _ hr).hi;exact jk17 this⟩,fun s hs _ _=>strong hs⟩
 | @bef r _ _ _ _ hr hk he h=>
  refine ⟨⟨Int.le_refl _,by have:=(ht.tel _ hr).hi;exact jk17 this⟩,fun s hs ha hs'=>?_⟩
  have h1:=en_le hs'
  rcases Int.lt_or_eq_of_le h1 with h1 | h1
  ·exact h1
  ·have:=ht.same s hs r hr h1
   unfold ahead at ha
   rw [this,hk] at ha
   exact absurd ha (by decide)
 | @two r _ _ _ _ _ _ _ _ hr h1 h2 he he' h h'=>
  refine ⟨⟨(lr_ge r).1,by have:=(ht.tel _ hr).hi;exact jk17 this⟩,fun s hs ha hs'=>?_⟩
  have h3:=en_le hs'
  have h4:=(lr_ge r).1
  rcases Int.lt_or_eq_of_le h3 with h3 | h3
  ·exact jk87 h3 h4
  ·have:=ht.same s hs r hr h3
   rw [h3,this] at hs'
   have key:∀k∈kinds,k≠before->k≠behind->strict k 0=false->strict k 1=true:=by decide
   have e0:strict r.kind 0=false:=by
    cases q:strict r.kind 0 with
    | false=>rfl
    | true=>unfold enF at hs';rw [q] at hs';simp at hs'
   have e1:=key _ (ht.tel r hr).kind h1 h2 e0
   have:lrF r=r.pow+1:=by unfold lrF enF;rw [e1];simp
   exact ul2 (uc3 _ _ _) u0 u2 (uA u2 (uK 1)) u1 (uA u0 (uK 1)) u1 rfl (Int.le_of_eq h3) (Int.le_of_eq (Eq.symm this))
theorem Der.low (ht:Tb ws t) {x:Tre} {p q:Int} {l:List Wd} (h:Der t x p q l):1<=p:=by
 induction h using Der.casesOn with
 | name _=>exact jk90
 | par _=>exact jk90
 | bef hr _ _ _=>exact (ht.tel _ hr).lo
 | beh hr _ _ _=>exact (ht.tel _ hr).lo
 | two hr _ _ _ _ _ _=>exact (ht.tel _ hr).lo
theorem Der.read (ht:Tb ws t) {x:Tre} {p q:Int} {l:List Wd} (h:Der t x p q l):∀{m:Int} {rest:List Wd} {o:Ro},m<=p->Stp t q rest->(Rd t .beg m (l++rest) o↔Rd t (.aft x p) m rest o):=by
 induction h with
 | @name w hw=>
  intro m rest o hm hs
  refine ⟨fun h=>?_,fun h=>.name hw h⟩
  have n1:∀{P:Prop},w=[40]->P:=fun q=>absurd q (sign_out hw.iw n40)
  have n2:∀{P:Prop} {r},roleF t w true=some r->P:=fun q=>by rw [hw.r1] at q;cases q
  exact RdS.casesOn (motive:=fun _=>_) h.inv (fun q _=>n1 q) (fun q _ _ _ _ _=>n1 q) (fun q _ _ _ _ _=>n1 q) (fun _ h=>h) (fun _ q _=>absurd hw q) (fun _ q _=>n2 q) fun _ _ _ _ q _ _=>n2 q
 | @par x p q l h ih=>
  intro m rest o hm hs
  have hp:=h.low ht
  have e:[40]::(l++[[41]])++rest=[40]::(l++[41]::rest):=by simp
  rw [e]
  have inner:∀{o'},Rd t .beg 1 (l++[41]::rest) o'->o'=.ok x p ([41]::rest):=fun h=>(Stp.close (q:=1) ht).inv ((ih hp (Stp.close ht)).mp h)
  refine ⟨fun h=>?_,fun h=>.par ((ih hp (Stp.close ht)).mpr (Stp.close ht).go) h⟩
  have n2:∀{P:Prop} {r},roleF t [40] true=some r->P:=fun q=>by rw [role_out ht n40] at q;cases q
  exact RdS.casesOn (motive:=fun _=>_) h.inv (fun _ h=>by cases inner h) (fun _ _ _ _ h hr=>by cases inner h;exact absurd rfl hr) (fun _ _ _ _ h h'=>by cases inner h;exact h') (fun q _=>absurd rfl (sign_out q.iw n40)) (fun q _ _=>absurd rfl q) (fun _ q _=>n2 q) fun _ _ _ _ q _ _=>n2 q
 | @bef r x p q l hr hk he h ih=>
  intro m rest o hm hs
  have hw:=(ht.tel r hr).word
  have hro:roleF t r.word true=some r:=by have:=ht.uniq r hr;rwa [show ahead r=true by unfold ahead;simp [hk]] at this
  have hq:=(h.need ht).1.1
  have hp:=en_le he
  have hs':Stp t q rest:=hs.mono (by exact jk18 hp hq)
  have inner:∀{o'},Rd t .beg r.pow (l++rest) o'->o'=.ok x p rest:=fun h=>hs.inv ((ih hp hs').mp h)
  refine ⟨fun h=>?_,fun h'=>.bef hro hm ((ih hp hs').mpr hs.go) h'⟩
  rw [List.cons_append] at h
  have n1:∀{P:Prop},r.word=[40]->P:=fun q=>absurd q (sign_out hw n40)
  exact RdS.casesOn (motive:=fun _=>_) h.inv (fun q _=>n1 q) (fun q _ _ _ _ _=>n1 q) (fun q _ _ _ _ _=>n1 q) (fun q _=>by rw [q.r1] at hro;cases hro) (fun _ _ q=>absurd hm (Int.not_le.mpr (q r hro))) (fun s q h=>by rw [hro] at q;cases q;cases inner h) fun s _ _ _ q h h'=>by rw [hro] at q;cases q;cases inner h;exact h'
 | @beh r x p q l hr hk he h ih=>
  intro m rest o hm hs
  have hah:ahead r=false:=by unfold ahead;rw [hk];rfl
  have hro:roleF t r.word false=some r:=by have:=ht.uniq r hr;rwa [hah] at this
  have hp:=en_le he
  have hs':Stp t q (r.word::rest):=fun w s h1 h2=>by cases h1;rw [hro] at h2;cases h2;exact (h.need ht).2 r hr hah he
  have e:l++[r.word]++rest=l++r.word::rest:=by simp
  rw [e,ih (by exact jk18 hm hp) hs']
  refine ⟨fun h=>?_,fun h=>.beh hro hm he hk h⟩
  refine RdM.casesOn (motive:=fun _=>_) h.inv (fun _ q=>?_) (fun _ _ s e q _ _ h=>?_) (fun _ _ s e q _ k _=>?_) fun _ _ s _ _ _ e q _ k _ _=>?_
  ·rcases q _ r rfl hro with q | q
   ·exact absurd hm (Int.not_le.mpr q)
   ·rw [he] at q;cases q
  ·cases e;rw [hro] at q;cases q;exact h
  ·cases e;rw [hro] at q;cases q;exact absurd hk k
  ·cases e;rw [hro] at q;cases q;exact absurd hk k
 | @two r x y p q p' q' l l' hr h1 h2 he he' h h' ih ih'=>
  intro m rest o hm hs
  have hah:ahead r=false:=by unfold ahead;simp [h1]
  have hro:roleF t r.word false=some r:=by have:=ht.uniq r hr;rwa [hah] at this
  have hp:=en_le he
  have hp':=lr_le he'
  have hs1:Stp t q (r.word::(l'++rest)):=fun w s h1 h2=>by cases h1;rw [hro] at h2;cases h2;exact (h.need ht).2 r hr hah he
  have hs2:Stp t q' rest:=hs.mono (by have:=(h'.need ht).1.1;exact jk18 hp' this)
  have e:l++r.word::l'++rest=l++r.word::(l'++rest):=by simp
  rw [e,ih (by exact jk18 hm hp) hs1]
  have inner:∀{o'},Rd t .beg (lrF r) (l'++rest) o'->o'=.ok y p' rest:=fun h=>hs.inv ((ih' hp' hs2).mp h)
  refine ⟨fun h=>?_,fun h=>.two hro hm he h2 ((ih' hp' hs2).mpr hs.go) h⟩
  refine RdM.casesOn (motive:=fun _=>_) h.inv (fun _ q=>?_) (fun _ _ s e q _ k h=>?_) (fun _ _ s e q _ _ h=>?_) fun _ _ s _ _ _ e q _ _ h h'=>?_
  ·rcases q _ r rfl hro with q | q
   ·exact absurd hm (Int.not_le.mpr q)
   ·rw [he] at q;cases q
  ·cases e;rw [hro] at q;cases q;exact absurd k h2
  ·cases e;rw [hro] at q;cases q;cases inner h
  ·cases e;rw [hro] at q;cases q;cases inner h;exact h'
theorem Rd.der (ht:Tb ws t) {st:Rb} {m:Int} {l:List Wd} {o:Ro} (h:Rd t st m l o):∀x p rest,o=.ok x p rest->match st with
  | .beg=>m<=31->∃q row,Der t x p q row/\m<=p/\l=row++rest
  | .aft y p0=>m<=p0->∀q0 row0,Der t y p0 q0 row0->∃q row,Der t x p q row/\m<=p/\row0++l=row++rest:=by
 induction h with
 | nil=>intro x p rest e;cases e
 | parF _ _=>intro x p rest e;cases e
 | parE _ _ _=>intro x p rest e;cases e
 | @par m l r x p o h hr ih1 ih2=>
  intro x' p' rest e hm
  obtain ⟨q,row,h1,_,h2⟩:=ih1 _ _ _ rfl (by decide)
  obtain ⟨q',row',g1,g2,g3⟩:=ih2 _ _ _ e hm _ _ (.par h1)
  exact ⟨q',row',g1,g2,by rw [<-g3,h2];simp⟩
 | name h hr ih=>
  intro x' p' rest e hm
  exact ih _ _ _ e hm _ _ (.name h)
 | no _ _ _=>intro x p rest e;cases e
 | befF _ _ _ _=>intro x p rest e;cases e
 | @bef m w l l' r x p o h hm hr hl ih1 ih2=>
  intro x' p' rest e hm'
  obtain ⟨hr1,rfl,ha⟩:=role_mem h
  have hk:r.kind=before:=by unfold ahead at ha;simpa using ha
  obtain ⟨q,row,h1,h3,h2⟩:=ih1 _ _ _ rfl (by have:=(ht.tel r hr1).hi;exact jk17 this)
  have he:enF r.kind 0 r.pow p=true:=by
   unfold enF;rw [hk,show strict before 0=false from rfl];simpa using h3
  obtain ⟨q',row',g1,g2,g3⟩:=ih2 _ _ _ e hm _ _ (.bef hr1 hk he h1)
  exact ⟨q',row',g1,g2,by rw [<-g3,h2];simp⟩
 | fin=>intro x p rest e hm q0 row0 hd;cases e;exact ⟨q0,row0,hd,hm,rfl⟩
 | stop _=>intro x p rest e hm q0 row0 hd;cases e;exact ⟨q0,row0,hd,hm,rfl⟩
 | @beh m x p w l r o h hm he hk hr ih=>
  intro x' p' rest e hm' q0 row0 hd
  obtain ⟨hr1,rfl,ha⟩:=role_mem h
  obtain ⟨q',row',g1,g2,g3⟩:=ih _ _ _ e hm _ _ (.beh hr1 hk he hd)
  exact ⟨q',row',g1,g2,by rw [<-g3];simp⟩
 | twoF _ _ _ _ _ _=>intro x p rest e;cases e
 | @two m x y p q w l l' r o h hm he hk hr hl ih1 ih2=>
  intro x' p' rest e hm' q0 row0 hd
  obtain ⟨hr1,rfl,ha⟩:=role_mem h
  have hk1:r.kind≠before:=by unfold ahead at ha;simpa using ha
  obtain ⟨q2,row,h1,h3,h2⟩:=ih1 _ _ _ rfl (by have:=(ht.tel r hr1).hi;have:=(lr_ge r).2;exact ul2 (uc2 _ _) u0 (uA u1 (uK 1)) u1 (uK 30) u0 (uK 31) rfl this ‹_›)
  have he':enF r.kind 1 r.pow q=true:=by
   unfold lrF enF at h3;unfold enF
   cases hs:strict r.kind 1 with
   | true=>rw [hs] at h3;simp at h3 ⊢;exact ul1 (uc2 _ _) (uA u0 (uK 1)) u1 (uA u0 (uK 1)) u1 rfl h3
   | false=>rw [hs] at h3;simpa using h3
  obtain ⟨q',row',g1,g2,g3⟩:=ih2 _ _ _ e hm _ _ (.two hr1 hk1 hk he he' hd h1)
  exact ⟨q',row',g1,g2,by rw [<-g3,h2];simp⟩
end
section
variable {t:List Row} {ws:List (List Nat)}
theorem en_mono {k:List Nat} {pl:Nat} {pow p q:Int} (h:enF k pl pow p=true) (hq:p<=q):enF k pl pow q=true:=by
 unfold enF at h ⊢;split at h
 ·rw [if_pos (by assumption)];have:=of_decide_eq_true h;exact decide_eq_true (by exact ul2 (uc3 _ _ _) (uA u0 (uK 1)) u2 u2 u1 (uA u0 (uK 1)) u1 rfl this hq)
 ·rw [if_neg (by assumption)];have:=of_decide_eq_true h;exact decide_eq_true (by exact ul2 (uc3 _ _ _) u2 u1 u0 u2 u0 u1 rfl hq this)
theorem en_top {k:List Nat} {pl:Nat} {pow:Int} (h:pow<=30):enF k pl pow 31=true:=by
 unfold enF;split <;> exact decide_eq_true (by (first | exact jk92 h | exact jk91 h))
noncomputable def Dr (t:List Row) (x:Tre) (l:List Wd):Prop:=∃p q,Der t x p q l/\x.pow<=p
theorem Dr.par {x:Tre} {l:List Wd} (ht:Tb ws t) (h:Dr t x l):Dr t x (par l):=by
 obtain ⟨p,q,h,hp⟩:=h
 exact ⟨31,32,.par h,by have:=(h.need ht).1.2;exact ul2 (uc2 _ _) u0 u1 u1 (uK 31) u0 (uK 31) rfl hp this⟩
theorem Dr.brk {x:Tre} {l:List Wd} {m:Int} (ht:Tb ws t) (h:Dr t x l):Dr t x (brk m l):=by
 unfold L.brk;split
 ·exact h.par ht
 ·exact h
theorem Dr.opr {x:Tre} {l:List Wd} {k:List Nat} {pl:Nat} {pow:Int} (hp:pow<=30) (h:Dr t x l):∃p q,Der t x p q (opr (enF k pl pow x.pow) l)/\enF k pl pow p=true:=by
 cases e:enF k pl pow x.pow with
 | true=>obtain ⟨p,q,h,hp⟩:=h;exact ⟨p,q,h,en_mono e hp⟩
 | false=>obtain ⟨p,q,h,_⟩:=h;exact ⟨31,32,.par h,en_top hp⟩
theorem row_der (ht:Tb ws t) {m:Int}:∀{x:Tre},x.ok t->Dr t x (x.row m)
 | .name w,h=>Dr.brk ht ⟨31,32,.name h,Int.le_refl _⟩
 | .one r x,h=>by
  have hr:=h.1.1
  obtain ⟨p,q,h1,h2⟩:=(row_der ht (m:=m) h.2).opr (k:=r.kind) (pl:=0) (ht.tel r hr).hi
  refine Dr.brk ht ?_
  rcases h.1.2 with k | k
  ·rw [if_pos (by simp [k])];exact ⟨_,_,.bef hr k h2 h1,Int.le_refl _⟩
  ·rw [if_neg (by rw [k];decide)];exact ⟨_,_,.beh hr k h2 h1,Int.le_refl _⟩
 | .two r x y,h=>by
  have hr:=h.1.1
  obtain ⟨p,q,h1,h2⟩:=(row_der ht (m:=m) h.2.1).opr (k:=r.kind) (pl:=0) (ht.tel r hr).hi
  obtain ⟨p',q',g1,g2⟩:=(row_der ht (m:=m) h.2.2).opr (k:=r.kind) (pl:=1) (ht.tel r hr).hi
  refine Dr.brk ht ?_
  rw [List.append_assoc]
  exact ⟨_,_,.two hr h.1.2.1 h.1.2.2 h2 g2 h1 g1,Int.le_refl _⟩
theorem Der.uniq (ht:Tb ws t) {x y:Tre} {p q p' q':Int} {l:List Wd} (h:Der t x p q l) (h':Der t y p' q' l):x=y/\p=p':=by
 have a:=(h.read ht (rest:=[]) (o:=.ok x p []) (h.low ht) .nil).mpr .fin
 have b:=Stp.nil.inv ((h'.read ht (rest:=[]) (h'.low ht) .nil).mp a)
 cases b;exact ⟨rfl,rfl⟩
end
section
variable {t:List Row} {ws:List (List Nat)} {a b:Addr} {row:List Wd}
theorem name_str (hC:CT ns defs C) {w:Wd} (ha:H a=some (.list (t.map rowD))) (h1:IsNm t w->Q (.bool true) H) (h2:¬IsNm t w->Q (.bool false) H):C (n+2) f_is_name [.ref a,.str w] H Q X:=by
 refine hC.intro (df:=d_is_name) rfl rfl ?_
 by_cases iw:IsW w
 ·refine ⟨_,rfl,is_word_spec hC iw ⟨true,rfl,?_⟩⟩
  refine ⟨_,rfl,_,rfl,role_spec hC ha ⟨_,isN_of,_,rfl,?_⟩⟩
  cases r1:roleF t w true with
  | some r=>exact h2 fun q=>by rw [q.r1] at r1;cases r1
  | none=>
   refine ⟨_,rfl,_,rfl,role_spec hC ha ⟨_,isN_of,?_⟩⟩
   cases r2:roleF t w false with
   | some r=>exact h2 fun q=>by rw [q.r2] at r2;cases r2
   | none=>exact h1 ⟨iw,r1,r2⟩
 ·exact ⟨_,rfl,is_word_not hC iw ⟨false,rfl,h2 fun q=>iw q.iw⟩⟩
theorem least_spec (hC:CT ns defs C) {r:Row} (h:Q (.int (lrF r)) H):C (n+2) f_least_right [rowD r] H Q X:=by
 refine hC.intro (df:=d_least_right) rfl rfl ?_
 refine ⟨_,rfl,_,rfl,2,_,rfl,rfl,enough_spec (pl:=1) hC ⟨_,rfl,?_⟩⟩
 unfold lrF at h
 split
 ·rename_i q;rw [if_pos q] at h;exact ⟨_,rfl,2,_,rfl,rfl,h⟩
 ·rename_i q;rw [if_neg q] at h;exact ⟨_,rfl,2,_,rfl,rfl,h⟩
noncomputable def Out (row:List Wd) (k0:Nat) (H:Hp) (Q:D->Hp->Prop) (X:Nat->Hp->Prop):Ro->Prop
 | .no=>X 4 H
 | .ok x p rest=>∀k,k0<=k->k<=row.length->rest=row.drop k->Q (.tup [x.d,.int p,.int k]) H
theorem drop_at {k:Nat} (h:k < row.length):row.drop k=row[k]::row.drop (k+1):=List.drop_eq_getElem_cons h
theorem len_strD {l:List Wd}:(strD l).length=l.length:=by unfold strD;rw [List.length_map]
theorem row_at {k:Nat} (hb:H b=some (.list (strD row))) (hk:k < row.length) (h:Q (.str row[k]) H):vItem (.ref b) (.int k) ns H Q:=item_at (i:=k) hb (by exact jk1) (strD_get hk) h
theorem first_spec (hC:CT ns defs C) {at_:Nat} {m:Int} (ha:H a=some (.list (t.map rowD))) (hb:H b=some (.list (strD row))) (hat:at_<=row.length)
  (IH:at_ < row.length->∀{m Q X},(∀o,Rd t .beg m (row.drop (at_+1)) o->Out row (at_+1) H Q X o)->C (n+3) f_read_at [.ref a,.ref b,.int (at_+1:Nat),.int m] H Q X)
  (hX:Rd t .beg m (row.drop at_) .no->X 4 H) (h:∀x p k,at_<=k->k<=row.length->(∀o,Rd t (.aft x p) m (row.drop k) o->Rd t .beg m (row.drop at_) o)->Q (.tup [x.d,.int p,.int k]) H) :
  C (n+4) f_first_at [.ref a,.ref b,.int at_,.int m] H Q X:=by
 refine hC.intro (df:=d_first_at) rfl rfl ?_
 refine ⟨_,rfl,_,rfl,_,hb,(at_:Int)==((strD row).length:Int),rfl,_,rfl,?_⟩
 rw [len_strD]
 by_cases hk:at_ < row.length
 ·rw [if_neg (by simp;exact jk93 hk)]
  rw [drop_at hk] at hX h
  generalize hw:row[at_]=w at hX h
  have hit:∀{Q:D->Hp->Prop},Q (.str w) H->vItem (.ref b) (.int at_) ns H Q:=fun q=>row_at (ns:=ns) hb hk (hw ▸ q)
  refine ⟨_,rfl,_,rfl,hit ⟨w==[40],rfl,_,rfl,?_⟩⟩
  by_cases h40:w=[40]
  ·subst h40
   refine ⟨_,rfl,_,rfl,_,rfl,IH hk fun o ho=>?_⟩
   cases o with
   | no=>exact hX (.parF ho)
   | ok x p rest=>
    intro k hk1 hk2 hr
    refine ⟨_,rfl,rfl,?_⟩
    refine ⟨_,rfl,_,rfl,_,hb,(k:Int)==((strD row).length:Int),rfl,_,rfl,?_⟩
    rw [len_strD]
    by_cases hkl:k < row.length
    ·rw [if_neg (by simp;exact jk93 hkl)]
     refine ⟨_,rfl,_,rfl,row_at (ns:=ns) hb hkl ⟨!(row[k]==[41]),rfl,_,rfl,?_⟩⟩
     rw [drop_at hkl] at hr
     by_cases h41:row[k]=[41]
     ·rw [if_neg (by simp [h41])]
      rw [h41] at hr;subst hr
      exact ⟨_,rfl,_,rfl,h x 31 (k+1) (by exact jl1 (jc2 _ _) (jA j0 (jK 1)) j1 j0 (jA j1 (jK 1)) rfl hk1) (by exact jk4 hkl) fun o ho'=>.par ho ho'⟩
     ·rw [if_pos (by simpa using h41)]
      exact hX (.parE ho fun z=>h41 (by rw [hr] at z;exact Option.some.inj z))
    ·rw [if_pos (by simp;exact Int.le_antisymm (ul1 (uc2 ((_:Nat):Int) ((_:Nat):Int)) u0 u1 u0 u1 rfl (Int.ofNat_le.mpr hk2)) (ul1 (uc2 ((_:Nat):Int) ((_:Nat):Int)) u0 u1 u0 u1 rfl (Int.ofNat_le.mpr (Nat.le_of_not_lt hkl))))]
     refine ⟨true,rfl,hX (.parE ho ?_)⟩
     rw [hr,List.drop_eq_nil_of_le (by exact jk8 hkl)];simp
  ·rw [if_neg (by simpa using h40)]
   refine ⟨_,rfl,_,rfl,_,rfl,hit (Q:=fun d H=>_) (name_str hC ha (fun hn=>?_) fun hn=>?_)⟩
   ·exact ⟨true,rfl,_,rfl,_,rfl,hit (Q:=fun d H=>_) ⟨_,rfl,h (.name w) 31 (at_+1) (by exact jk6) (by exact jk4 hk) fun o ho=>.name hn ho⟩⟩
   ·refine ⟨false,rfl,?_⟩
    refine ⟨_,rfl,_,rfl,_,rfl,hit (Q:=fun d H=>_) (role_spec hC ha ?_)⟩
    refine ⟨_,rfl,_,isN_of,_,rfl,?_⟩
    cases hr:roleF t w true with
    | none=>exact ⟨true,rfl,hX (.no h40 hn fun r q=>by rw [hr] at q;cases q)⟩
    | some r=>
     obtain ⟨hrt,hrw,hra⟩:=role_mem hr
     have e:roleD t w true=rowD r:=by unfold roleD;rw [hr]
     rw [e]
     refine ⟨_,rfl,2,_,rfl,rfl,_,rfl,decide (r.pow < m),rfl,_,rfl,?_⟩
     by_cases hp:r.pow < m
     ·rw [if_pos (decide_eq_true hp)]
      exact hX (.no h40 hn fun s q=>by rw [hr] at q;cases q;exact hp)
     ·rw [if_neg (by simpa using hp)]
      refine ⟨_,rfl,_,rfl,_,rfl,_,rfl,2,_,rfl,rfl,IH hk fun o ho=>?_⟩
      cases o with
      | no=>exact hX (.befF hr (by exact jk9 hp) ho)
      | ok x p rest=>
       intro k hk1 hk2 hrr
       subst hrr
       have hkd:r.kind=before:=by unfold ahead at hra;simpa using hra
       have:=h (.one r x) r.pow k (by exact jk53 hk1) hk2 fun o ho'=>.bef hr (by exact jk9 hp) ho ho'
       refine ⟨_,rfl,rfl,_,rfl,_,rfl,hit (Q:=fun d H=>_) ⟨_,rfl,_,rfl,2,_,rfl,rfl,_,rfl,?_⟩⟩
       rw [show (Tre.one r x).d=.tup [.str before,.str w,x.d] by show D.tup [.str r.kind,.str r.word,x.d]=_;rw [hkd,hrw]] at this
       exact this
 ·have:at_=row.length:=by exact jk27 hat hk
  subst this
  rw [if_pos (by simp)]
  exact hX (by rw [List.drop_length];exact .nil)
noncomputable def RdAt (C:Nat->CallT) (t:List Row) (row:List Wd) (a b:Addr) (H:Hp) (j:Nat):Prop:=∀{N at_:Nat} {m:Int} {Q:D->Hp->Prop} {X:Nat->Hp->Prop},at_<=row.length->row.length - at_<=j->2*j+5<=N ->
  (∀o,Rd t .beg m (row.drop at_) o->Out row at_ H Q X o)->C N f_read_at [.ref a,.ref b,.int at_,.int m] H Q X
inductive RI (t:List Row) (row:List Wd) (a b:Addr) (at_:Nat) (m:Int) (H:Hp) (Q:D->Hp->Prop) (X:Nat->Hp->Prop):Nat->Loc->Hp->Prop
 | mk (x:Tre) (p:Int) (k:Nat) (x7 x8 x9:Option D) (h1:at_<=k) (h2:k<=row.length) (h:∀o,Rd t (.aft x p) m (row.drop k) o->Out row at_ H Q X o) :
  RI t row a b at_ m H Q X (row.length - k) [some (.ref a),some (.ref b),some (.int at_),some (.int m),some x.d,some (.int p),some (.int k),x7,x8,x9] H
theorem read_step (hC:CT ns defs C) (ha:H a=some (.list (t.map rowD))) (hb:H b=some (.list (strD row))) (j:Nat) (IH:∀i,i < j->RdAt C t row a b H i):RdAt C t row a b H j:=by
 intro N at_ m Q X hat hj hN h
 obtain ⟨n,rfl⟩:∃n,N=n+5:=⟨N - 5,by exact Nat.le_antisymm (jl1 (jc2 _ (_ - (5:Nat))) j0 (jA j1 (jK 5)) j0 (jA j1 (jK 5)) rfl (Nat.le_add_of_sub_le (Nat.le_refl (_ - (5:Nat))))) (jl1 (jc2 (_ - (5:Nat)) _) (jA j0 (jK 5)) j1 (jA j0 (jK 5)) j1 rfl (Nat.le_of_eq (Nat.sub_add_cancel (jl1 (jc2 _ _) (jA (jM 2 j1) (jK 5)) j0 (jK 5) j0 rfl hN))))⟩
 refine hC.intro (df:=d_read_at) rfl rfl ?_
 refine ⟨_,rfl,_,rfl,_,rfl,_,rfl,first_spec hC ha hb hat (fun hlt {m Q X} h=>?_) (fun q=>h .no q) fun x p k hk1 hk2 hx=>?_⟩
 ·obtain ⟨j,rfl⟩:∃i,j=i+1:=⟨j - 1,by exact Nat.le_antisymm (jl1 (jc2 _ (_ - (1:Nat))) j0 (jA j1 (jK 1)) j0 (jA j1 (jK 1)) rfl (Nat.le_add_of_sub_le (Nat.le_refl (_ - (1:Nat))))) (jl1 (jc2 (_ - (1:Nat)) _) (jA j0 (jK 1)) j1 (jA j0 (jK 1)) j1 rfl (Nat.le_of_eq (Nat.sub_add_cancel (jl3 (jc4 _ (_ - _) _ _) j1 j0 (jA j2 (jK 1)) j3 j3 (jA j1 j2) (jK 1) j0 rfl hj hlt (Nat.le_add_of_sub_le (Nat.le_refl (_ - _)))))))⟩
  exact IH j (by exact jk16) hlt (by omega) (by exact jl1 (jc2 _ _) (jA (jM 2 (jA j0 (jK 1))) (jK 5)) (jA j1 (jK 5)) (jA (jM 2 j0) (jK 5)) (jA j1 (jK 3)) rfl hN) h
 refine ⟨_,rfl,rfl,?_⟩
 refine ⟨RI t row a b at_ m H Q X,⟨_,.mk x p k none none none hk1 hk2 fun o ho=>h o (hx o ho)⟩,?_⟩
 intro i l0 H0 hI
 induction hI with | mk x p k x7 x8 x9 hk1 hk2 hx=>
 refine ⟨_,rfl,_,rfl,_,hb,decide ((k:Int) < ((strD row).length:Int)),rfl,_,rfl,?_⟩
 rw [len_strD]
 by_cases hk:k < row.length
 ·rw [if_pos (decide_eq_true (by exact jk15 hk))]
  refine ⟨_,rfl,_,rfl,row_at (ns:=ns) hb hk ?_⟩
  have hd:=drop_at hk
  rw [hd] at hx
  generalize row[k]=w at hx hd
  have hstop:(∀r,roleF t w false=some r->r.pow < m\/enF r.kind 0 r.pow p=false)->Q (.tup [x.d,.int p,.int k]) H:=fun q=>hx _ (.stop q) k hk1 hk2 hd.symm
  refine ⟨_,rfl,_,rfl,role_spec hC ha ?_⟩
  refine ⟨_,rfl,_,isN_of,_,rfl,?_⟩
  cases hr:roleF t w false with
  | none=>exact ⟨true,rfl,_,rfl,_,rfl,_,rfl,hstop fun r q=>by rw [hr] at q;cases q⟩
  | some r=>
   obtain ⟨hrt,hrw,hra⟩:=role_mem hr
   have e:roleD t w false=rowD r:=by unfold roleD;rw [hr]
   rw [e]
   refine ⟨_,rfl,2,_,rfl,rfl,_,rfl,decide (r.pow < m),rfl,_,rfl,?_⟩
   by_cases hp:r.pow < m
   ·rw [if_pos (decide_eq_true hp)]
    exact ⟨true,rfl,_,rfl,_,rfl,_,rfl,hstop fun s q=>by rw [hr] at q;cases q;exact Or.inl hp⟩
   ·rw [if_neg (by simpa using hp)]
    refine ⟨_,rfl,_,rfl,enough_spec (pl:=0) hC ⟨_,rfl,_,rfl,?_⟩⟩
    cases he:enF r.kind 0 r.pow p with
    | false=>exact ⟨_,rfl,_,rfl,_,rfl,hstop fun s q=>by rw [hr] at q;cases q;exact Or.inr he⟩
    | true=>
     refine ⟨_,rfl,1,_,rfl,rfl,r.kind==behind,rfl,_,rfl,?_⟩
     by_cases hk':r.kind=behind
     ·rw [if_pos (by simp [hk'])]
      have ed:(Tre.one r x).d=.tup [.str behind,.str w,x.d]:=by show D.tup [.str r.kind,.str r.word,x.d]=_;rw [hk',hrw]
      have hri:=RI.mk (a:=a) (b:=b) (.one r x) r.pow (k+1) (some (.str w)) (some (rowD r)) x9 (by exact jk24 hk1) (by exact jk4 hk) fun o ho=>hx o (.beh hr (by exact jk9 hp) he hk' ho)
      rw [ed] at hri
      exact ⟨_,rfl,_,rfl,_,rfl,_,rfl,2,_,rfl,rfl,row.length - (k+1),by exact jl2 (jc4 (_ - (_+(1:Nat))) (_ - _) _ _) j2 (jA j1 j3) (jA j0 (jA j3 (jK 1))) j2 (jA j0 (jK 1)) j1 rfl (Nat.le_add_of_sub_le (Nat.le_refl (_ - _))) (Nat.le_of_eq (Nat.sub_add_cancel (jl1 (jc2 _ _) (jA j0 (jK 1)) j1 (jA j0 (jK 1)) j1 rfl hk))),hri⟩
     ·rw [if_neg (by simpa using hk')]
      obtain ⟨j,rfl⟩:∃i,j=i+1:=⟨j - 1,by exact Nat.le_antisymm (jl1 (jc2 _ (_ - (1:Nat))) j0 (jA j1 (jK 1)) j0 (jA j1 (jK 1)) rfl (Nat.le_add_of_sub_le (Nat.le_refl (_ - (1:Nat))))) (jl1 (jc2 (_ - (1:Nat)) _) (jA j0 (jK 1)) j1 (jA j0 (jK 1)) j1 rfl (Nat.le_of_eq (Nat.sub_add_cancel (jl3 (jc5 _ (_ - _) _ _ _) (jA j3 (jK 1)) j4 j4 (jA j1 j2) (jA j1 j2) (jA j0 j3) (jK 1) j0 rfl hk (Nat.le_add_of_sub_le (Nat.le_refl (_ - _))) (Nat.add_le_add hj hk1)))))⟩
      refine ⟨_,rfl,_,rfl,_,rfl,_,rfl,least_spec hC (IH j (by exact jk16) (at_:=k+1) (by exact jk4 hk) (by omega) (by exact jl1 (jc2 _ _) (jA (jM 2 (jA j0 (jK 1))) (jK 5)) (jA j1 (jK 5)) (jA (jM 2 j0) (jK 5)) (jA j1 (jK 4)) rfl hN) fun o ho=>?_)⟩
      cases o with
      | no=>exact hx .no (.twoF hr (by exact jk9 hp) he hk' ho)
      | ok y q rest=>
       intro k' hk1' hk2' hrr
       subst hrr
       have ed:(Tre.two r x y).d=.tup [.str between,.str w,x.d,y.d]:=by show D.tup [.str between,.str r.word,x.d,y.d]=_;rw [hrw]
       have hri:=RI.mk (a:=a) (b:=b) (.two r x y) r.pow k' (some (.str w)) (some (rowD r)) (some y.d) (by exact jl2 (jc3 _ _ _) (jA j2 (jK 1)) j1 j0 j2 j0 j1 rfl hk1' hk1) hk2' fun o ho'=>hx o (.two hr (by exact jk9 hp) he hk' ho ho')
       rw [ed] at hri
       exact ⟨_,rfl,rfl,_,rfl,_,rfl,_,rfl,_,rfl,2,_,rfl,rfl,row.length - k',by exact jl3 (jc5 (_ - _) (_ - _) _ _ _) (jA j2 (jK 1)) j3 j4 (jA j1 j2) (jA j0 j3) j4 (jA j0 (jK 1)) j1 rfl hk1' (Nat.le_add_of_sub_le (Nat.le_refl (_ - _))) (Nat.le_of_eq (Nat.sub_add_cancel (jl1 (jc2 _ _) j0 j1 j0 j1 rfl hk2'))),hri⟩
 ·have:k=row.length:=by exact jk27 hk2 hk
  subst this
  rw [if_neg (by simp)]
  have hz:Out row at_ H Q X (.ok x p []):=hx _ (by rw [List.drop_length];exact .fin)
  exact ⟨_,rfl,_,rfl,_,rfl,hz _ hk1 hk2 (by rw [List.drop_length])⟩
theorem read_spec (hC:CT ns defs C) (ha:H a=some (.list (t.map rowD))) (hb:H b=some (.list (strD row))) (j:Nat):RdAt C t row a b H j:=@Nat.strongRecOn (fun j=>RdAt C t row a b H j) j fun j IH=>@read_step _ _ _ _ _ _ _ hC ha hb j IH
theorem tree_of_spec (hC:CT ns defs C) {N:Nat} (ht:Tb ws t) (ha:H a=some (.list (t.map rowD))) (hb:H b=some (.list (strD row))) (hl:row.length<=99) (hN:2*row.length+6<=N)
  (h1:∀x p q,Der t x p q row->Q x.d H) (h2:(∀x p q,¬Der t x p q row)->X 4 H):C N f_tree_of [.ref a,.ref b] H Q X:=by
 obtain ⟨n,rfl⟩:∃n,N=n+1:=⟨N - 1,by exact Nat.le_antisymm (jl1 (jc2 _ (_ - (1:Nat))) j0 (jA j1 (jK 1)) j0 (jA j1 (jK 1)) rfl (Nat.le_add_of_sub_le (Nat.le_refl (_ - (1:Nat))))) (jl1 (jc2 (_ - (1:Nat)) _) (jA j0 (jK 1)) j1 (jA j0 (jK 1)) j1 rfl (Nat.le_of_eq (Nat.sub_add_cancel (jl1 (jc2 _ _) (jA (jM 2 j1) (jK 6)) j0 (jK 1) j0 rfl hN))))⟩
 refine hC.intro (df:=d_tree_of) rfl rfl ?_
 refine ⟨_,rfl,_,hb,decide (((strD row).length:Int) > 99),rfl,_,rfl,?_⟩
 rw [len_strD,if_neg (by simp;exact ul1 (uc1 ((_:Nat):Int)) u0 (uK 99) u0 (uK 99) rfl (Int.ofNat_le.mpr hl))]
 have none:∀{o},Rd t .beg 1 row o->(∀x p,o≠.ok x p [])->∀x p q,¬Der t x p q row:=fun ho hno x p q hd=>by
  have:=(hd.read ht (rest:=[]) (hd.low ht) .nil).mp (by rw [List.append_nil];exact ho)
  exact hno x p (Stp.nil.inv this)
 refine ⟨_,rfl,_,rfl,read_spec hC ha hb row.length (at_:=0) (by exact jl0 (jc1 _) (jK 0) j0 rfl) (by exact jl1 (jc2 (_ - (0:Nat)) _) j0 j1 j0 j1 rfl (Nat.sub_le _ (0:Nat))) (by exact jl1 (jc2 _ _) (jA (jM 2 j0) (jK 6)) (jA j1 (jK 1)) (jA (jM 2 j0) (jK 5)) j1 rfl hN) fun o ho=>?_⟩
 rw [List.drop_zero] at ho
 cases o with
 | no=>exact h2 (none ho fun _ _ q=>by cases q)
 | ok x p rest=>
  intro k _ hk hr
  refine ⟨_,rfl,rfl,_,rfl,_,rfl,_,hb,!((k:Int)==((strD row).length:Int)),rfl,_,rfl,?_⟩
  rw [len_strD]
  by_cases hkl:k=row.length
  ·subst hkl
   rw [List.drop_length] at hr
   subst hr
   rw [if_neg (by simp)]
   obtain ⟨q,row',hd,_,e⟩:=ho.der ht x p [] rfl (by decide)
   rw [List.append_nil] at e
   subst e
   exact ⟨_,rfl,h1 x p q hd⟩
  ·rw [if_pos (by simp;omega)]
   refine h2 (none ho fun x' p' q=>?_)
   cases q
   have:=List.drop_eq_nil_iff.mp hr.symm
   omega
theorem tree_of_long (hC:CT ns defs C) (hb:H b=some (.list (strD row))) (hl:99 < row.length) (h:X 6 H):C (n+1) f_tree_of [.ref a,.ref b] H Q X:=by
 refine hC.intro (df:=d_tree_of) rfl rfl ?_
 refine ⟨_,rfl,_,hb,decide (((strD row).length:Int) > 99),rfl,_,rfl,?_⟩
 rw [len_strD,if_pos (decide_eq_true (by exact ul1 (uc1 ((_:Nat):Int)) (uA (uK 99) (uK 1)) u0 (uA (uK 99) (uK 1)) u0 rfl (Int.ofNat_le.mpr hl)))]
 exact h
end
inductive Al:D->Prop
 | str (w:List Nat):Al (.str w)
 | int (i:Int):Al (.int i)
 | tup (l:List D) (h:∀d∈l,Al d) (h0:0 < l.length) (hl:l.length<=100):Al (.tup l)
noncomputable def prs (ds:List D):List D:=ds.map fun d=>.tup [d,d]
theorem prs_snoc (ds:List D) (d:D):prs (ds++[d])=prs ds++[.tup [d,d]]:=by unfold prs;rw [List.map_append];rfl
theorem prs_zip:∀l:List D,((l.zip l).map fun p=>D.tup [p.1,p.2])=prs l
 | []=>rfl
 | d::l=>congrArg (D.tup [d,d]::·) (prs_zip l)
theorem ne_nil {e a:Addr} {ds:List D} (he:H e=some (.list ds)) (ha:H a=some (.list [])):vCmp .ne (.ref e) (.ref a) H=some (!ds.isEmpty):=by
 show (eqL (H e) (H a)).map _=_
 rw [he,ha]
 cases ds with
 | nil=>rfl
 | cons d ds=>rfl
inductive AI (d:D) (H:Hp):Nat->Loc->Hp->Prop
 | mk (e:Addr) (ds:List D) (x3:Option D) (H':Hp) (hle:H.Le H') (h0:H e=none) (he:H' e=some (.list (prs ds))) (hal:∀d∈ds,Al d) (hz:szDs ds<=100000):AI d H (szDs ds) [some d,some d,some (.ref e),x3] H'
theorem alike_spec (hC:CT ns defs C) {d:D} (hd:Al d) (hz:szD d<=100000) (h:∀H',H.Le H'->Q (.bool true) H'):C (n+1) f_l_alike [d,d] H Q X:=by
 have hSZ:SZ=1000000:=rfl
 refine hC.intro (df:=d_l_alike) rfl rfl ?_
 refine ⟨_,rfl,_,rfl,fun e he=>?_⟩
 refine ⟨AI d H,⟨_,.mk e [d] _ _ (.set _ he) he set_self' (fun x hx=>by rw [List.mem_singleton.mp hx];exact hd) hz⟩,?_⟩
 intro m l0 H1 hI
 induction hI with | mk e ds x3 H1 hle he0 he1 hal hsz=>
 refine ⟨_,rfl,fun a ha=>⟨_,ne_nil (set_old he1 ha) set_self',_,rfl,?_⟩⟩
 have hle1:H.Le (H1.set a (.list [])):=le_set hle ha
 have he1:=set_old (o:=.list []) he1 ha
 generalize H1.set a (.list [])=H1 at hle1 he1
 cases hl:ds.length with
 | zero=>
  have:ds=[]:=List.length_eq_zero_iff.mp hl
  subst this
  exact h H1 hle1
 | succ k=>
  obtain ⟨es,y,rfl,hl1⟩:=snoc hl
  rw [prs_snoc] at he1 ⊢
  rw [szDs_snoc] at hsz
  have hes:=len_sz es
  rw [if_pos (by simp)]
  refine ⟨_,rfl,⟨_,he1⟩,_,_,he1,?_⟩
  have hle2:H.Le (H1.set e (.list (prs es))):=le_set_new hle1 he0
  have hal':∀d∈es,Al d:=fun d hd=>hal d (List.mem_append_left _ hd)
  have hnext:szD y=1->Dn (AI d H) (szDs (es++[y])) [some d,some d,some (.ref e),some (D.tup [y,y])] (H1.set e (.list (prs es))):=fun hy=>⟨szDs es,by rw [szDs_snoc];exact jl1 (jc2 _ _) (jK 1) j1 (jA j0 (jK 1)) (jA j0 j1) rfl (Nat.le_of_eq (Eq.symm hy)),.mk e es _ _ hle2 he0 set_self' hal' (by exact jl1 (jc2 _ _) (jA j0 j1) (jK 100000) j0 (jK 100000) rfl hsz)⟩
  cases hal y (by simp) with
  | str w=>
   refine ⟨_,rfl,1,_,rfl,rfl,true,rfl,true,rfl,?_⟩
   refine ⟨_,rfl,0,_,rfl,rfl,true,rfl,true,rfl,false,rfl,_,rfl,0,_,rfl,rfl,_,rfl,1,_,rfl,rfl,!(w==w),rfl,_,rfl,?_⟩
   rw [beq_self_eq_true]
   exact hnext rfl
  | int i=>
   refine ⟨_,rfl,1,_,rfl,rfl,false,rfl,false,rfl,?_⟩
   refine ⟨_,rfl,1,_,rfl,rfl,false,rfl,false,rfl,?_⟩
   refine ⟨_,rfl,0,_,rfl,rfl,true,rfl,true,rfl,false,rfl,_,rfl,0,_,rfl,rfl,false,rfl,false,rfl,_,rfl,0,_,rfl,rfl,_,rfl,1,_,rfl,rfl,!(i==i),rfl,_,rfl,?_⟩
   rw [beq_self_eq_true]
   exact hnext rfl
  | tup l hall hp hn=>
   have hsl:szDs es+(1+szDs l)<=100000:=hsz
   have hln:=len_sz l
   refine ⟨_,rfl,1,_,rfl,rfl,false,rfl,false,rfl,?_⟩
   refine ⟨_,rfl,1,_,rfl,rfl,true,rfl,true,rfl,?_⟩
   refine ⟨_,rfl,0,_,rfl,rfl,true,rfl,true,rfl,false,rfl,_,rfl,0,_,rfl,rfl,_,rfl,1,_,rfl,rfl,!((l.length:Int)==(l.length:Int)),rfl,_,rfl,?_⟩
   rw [beq_self_eq_true]
   refine ⟨_,rfl,_,rfl,0,_,rfl,rfl,_,rfl,1,_,rfl,rfl,rfl,hp,hn,fun f hf=>?_⟩
   refine ⟨_,_,set_old set_self' hf,set_self',by rw [prs_zip];unfold prs;rw [List.length_map,List.length_map];exact jl3 (jc5 _ _ _ _ _) j1 j4 (jK 1000000) j2 (jA (jA j3 (jA (jK 1) j4)) j0) (jA (jK 100000) j3) (jA j0 j1) j2 rfl hln (Nat.le_of_eq (Eq.symm hSZ)) (Nat.add_le_add hsl hes),fun g hg=>?_⟩
   refine ⟨szDs (es++l),by rw [szDs_snoc,szDs_append];show _ < _+(1+szDs l);exact jl0 (jc2 _ _) (jA (jA j0 j1) (jK 1)) (jA j0 (jA (jK 1) j1)) rfl,.mk g (es++l) _ _ (le_set (le_set hle2 hf) hg) (none_of_le (le_set hle2 hf) hg) ?_ (fun d hd=>?_) (by rw [szDs_append];exact jl1 (jc2 _ _) (jA j0 (jA (jK 1) j1)) (jK 100000) (jA j0 j1) (jK 100000) rfl hsl)⟩
   ·rw [set_self',prs_zip];unfold prs;rw [List.map_append]
   ·rcases List.mem_append.mp hd with hd | hd
    ·exact hal' d hd
    ·exact hall d hd
theorem Tre.al:∀x:Tre,Al x.d
 | .name w=>.str w
 | .one r x=>.tup _ (fun d hd=>by
  simp only [List.mem_cons,List.not_mem_nil,or_false] at hd
  rcases hd with rfl | rfl | rfl
  ·exact .str _
  ·exact .str _
  ·exact Tre.al x) (Nat.zero_lt_succ _) (Nat.le_of_ble_eq_true rfl)
 | .two r x y=>.tup _ (fun d hd=>by
  simp only [List.mem_cons,List.not_mem_nil,or_false] at hd
  rcases hd with rfl | rfl | rfl | rfl
  ·exact .str _
  ·exact .str _
  ·exact Tre.al x
  ·exact Tre.al y) (Nat.zero_lt_succ _) (Nat.le_of_ble_eq_true rfl)
theorem kinds_in {k:List Nat}:vCmp .notin (.str k) (.tup (strD kinds)) H=some (!kinds.contains k):=by
 show (memD (.str k) (strD kinds)).map _=_;rw [mem_strs];rfl
inductive NT (H:Hp):D->Prop
 | plain (d:D) (h:isI H d 13=some false):NT H d
 | len (l:List D) (h:(l.length:Int)≠4):NT H (.tup l)
 | first (x0 x1 x2 x3:D) (h:isI H x0 10=some false):NT H (.tup [x0,x1,x2,x3])
 | tag (g:List Nat) (x1 x2 x3:D) (h:g≠tell):NT H (.tup [.str g,x1,x2,x3])
 | kind (x1 x2 x3:D) (h:isI H x1 10=some false):NT H (.tup [.str tell,x1,x2,x3])
 | noKind (k:List Nat) (x2 x3:D) (h:k∉kinds):NT H (.tup [.str tell,.str k,x2,x3])
 | pow (k:List Nat) (x2 x3:D) (hk:k∈kinds) (h:isI H x2 11=some false):NT H (.tup [.str tell,.str k,x2,x3])
 | bool (k:List Nat) (b:Bool) (x3:D) (hk:k∈kinds):NT H (.tup [.str tell,.str k,.bool b,x3])
 | range (k:List Nat) (i:Int) (x3:D) (hk:k∈kinds) (h:¬(1<=i/\i<=30)):NT H (.tup [.str tell,.str k,.int i,x3])
 | word (k:List Nat) (i:Int) (x3:D) (hk:k∈kinds) (hi:1<=i/\i<=30) (h:isI H x3 10=some false):NT H (.tup [.str tell,.str k,.int i,x3])
 | noword (k:List Nat) (i:Int) (w:List Nat) (hk:k∈kinds) (hi:1<=i/\i<=30) (h:¬IsW w):NT H (.tup [.str tell,.str k,.int i,.str w])
theorem NT.le {H H':Hp} {d:D} (hle:H.Le H') (x:NT H d):NT H' d:=by
 induction x with
 | plain d h=>exact .plain d (isI_le hle h)
 | len l h=>exact .len l h
 | first x0 x1 x2 x3 h=>exact .first x0 x1 x2 x3 (isI_le hle h)
 | tag g x1 x2 x3 h=>exact .tag g x1 x2 x3 h
 | kind x1 x2 x3 h=>exact .kind x1 x2 x3 (isI_le hle h)
 | noKind k x2 x3 h=>exact .noKind k x2 x3 h
 | pow k x2 x3 hk h=>exact .pow k x2 x3 hk (isI_le hle h)
 | bool k b x3 hk=>exact .bool k b x3 hk
 | range k i x3 hk h=>exact .range k i x3 hk h
 | word k i x3 hk hi h=>exact .word k i x3 hk hi (isI_le hle h)
 | noword k i w hk hi h=>exact .noword k i w hk hi h
section
variable {ws:List (List Nat)} {x0 x1 x2 x3:D} {k:List Nat} {i:Int} {Y:Nat->Loc->Hp->Prop}
theorem tel_1 {c':CallT} (h:vSs ns c' b_is_telling_2 [some (.tup [.str tell,x1,x2,x3])] H (retQ Q) Y):vSs ns c' d_is_telling.body [some (.tup [.str tell,x1,x2,x3])] H (retQ Q) Y:=
 ⟨_,rfl,true,rfl,true,rfl,false,rfl,_,rfl,false,rfl,false,rfl,_,rfl,0,_,rfl,rfl,true,rfl,true,rfl,false,rfl,_,rfl,0,_,rfl,rfl,false,rfl,false,rfl,h⟩
theorem tel_2 {c':CallT} (hk:k∈kinds) (h:vSs ns c' b_is_telling_1 [some (.tup [.str tell,.str k,x2,x3])] H (retQ Q) Y):vSs ns c' b_is_telling_2 [some (.tup [.str tell,.str k,x2,x3])] H (retQ Q) Y:=by
 refine ⟨_,rfl,1,_,rfl,rfl,true,rfl,true,rfl,false,rfl,_,rfl,1,_,rfl,rfl,_,kinds_in,_,rfl,?_⟩
 rw [show kinds.contains k=true by simpa using hk]
 exact h
theorem tel_3 {c':CallT} (hi:1<=i/\i<=30) (h:vSs ns c' b_is_telling_0 [some (.tup [.str tell,.str k,.int i,x3])] H (retQ Q) Y):vSs ns c' b_is_telling_1 [some (.tup [.str tell,.str k,.int i,x3])] H (retQ Q) Y:=by
 refine ⟨_,rfl,2,_,rfl,rfl,true,rfl,true,rfl,false,rfl,_,rfl,2,_,rfl,rfl,false,rfl,false,rfl,_,rfl,2,_,rfl,rfl,decide ((1:Int)<=i),rfl,?_⟩
 rw [decide_eq_true hi.1]
 refine ⟨decide (i<=30),rfl,?_⟩
 rw [decide_eq_true hi.2]
 exact ⟨true,rfl,false,rfl,h⟩
theorem is_telling_yes (hC:CT ns defs C) {r:Row} (hr:Tel ws r) (h:Q (.bool true) H):C (n+2) f_is_telling [rowD r] H Q X:=by
 refine hC.intro (df:=d_is_telling) rfl rfl (tel_1 (tel_2 hr.kind (tel_3 ⟨hr.lo,hr.hi⟩ ?_)))
 exact ⟨_,rfl,3,_,rfl,rfl,is_word_spec hC hr.word h⟩
theorem is_telling_no (hC:CT ns defs C) {d:D} (hd:NT H d) (h:Q (.bool false) H):C (n+2) f_is_telling [d] H Q X:=by
 refine hC.intro (df:=d_is_telling) rfl rfl ?_
 induction hd with
 | plain d hd=>exact ⟨_,rfl,false,hd,false,rfl,true,rfl,true,rfl,h⟩
 | len l hl=>
  refine ⟨_,rfl,true,rfl,true,rfl,false,rfl,_,rfl,!((l.length:Int)==4),rfl,_,rfl,?_⟩
  rw [if_pos (by simpa using hl)]
  exact ⟨true,rfl,h⟩
 | first x0 x1 x2 x3 hx=>exact ⟨_,rfl,true,rfl,true,rfl,false,rfl,_,rfl,false,rfl,false,rfl,_,rfl,0,_,rfl,rfl,false,hx,false,rfl,true,rfl,true,rfl,h⟩
 | tag g x1 x2 x3 hg=>
  refine ⟨_,rfl,true,rfl,true,rfl,false,rfl,_,rfl,false,rfl,false,rfl,_,rfl,0,_,rfl,rfl,true,rfl,true,rfl,false,rfl,_,rfl,0,_,rfl,rfl,!(g==tell),rfl,_,rfl,?_⟩
  rw [if_pos (by simpa using hg)]
  exact h
 | kind x1 x2 x3 hx=>exact tel_1 ⟨_,rfl,1,_,rfl,rfl,false,hx,false,rfl,true,rfl,true,rfl,h⟩
 | noKind k x2 x3 hk=>
  refine tel_1 ⟨_,rfl,1,_,rfl,rfl,true,rfl,true,rfl,false,rfl,_,rfl,1,_,rfl,rfl,_,kinds_in,_,rfl,?_⟩
  rw [show kinds.contains k=false by simpa using hk]
  exact h
 | pow k x2 x3 hk hx=>exact tel_1 (tel_2 hk ⟨_,rfl,2,_,rfl,rfl,false,hx,false,rfl,true,rfl,true,rfl,h⟩)
 | bool k b x3 hk=>exact tel_1 (tel_2 hk ⟨_,rfl,2,_,rfl,rfl,true,rfl,true,rfl,false,rfl,_,rfl,2,_,rfl,rfl,true,rfl,true,rfl,true,rfl,h⟩)
 | range k i x3 hk hi=>
  refine tel_1 (tel_2 hk ⟨_,rfl,2,_,rfl,rfl,true,rfl,true,rfl,false,rfl,_,rfl,2,_,rfl,rfl,false,rfl,false,rfl,_,rfl,2,_,rfl,rfl,decide ((1:Int)<=i),rfl,?_⟩)
  by_cases h1:1<=i
  ·rw [decide_eq_true h1]
   refine ⟨decide (i<=30),rfl,?_⟩
   rw [decide_eq_false fun q=>hi ⟨h1,q⟩]
   exact ⟨false,rfl,true,rfl,h⟩
  ·rw [decide_eq_false h1]
   exact ⟨false,rfl,true,rfl,h⟩
 | word k i x3 hk hi hx=>exact tel_1 (tel_2 hk (tel_3 hi ⟨_,rfl,3,_,rfl,rfl,is_word_other hC hx h⟩))
 | noword k i w hk hi hw=>exact tel_1 (tel_2 hk (tel_3 hi ⟨_,rfl,3,_,rfl,rfl,is_word_not hC hw h⟩))
theorem added_body {c':CallT} {a:Addr} {r x:Row} {K:Fl->Loc->Hp->Prop} (h:if (x.pow==r.pow&&!(x.kind==r.kind))=true then Y 3 [some (.ref a),some (rowD r),some (rowD x)] H else K .next [some (.ref a),some (rowD r),some (rowD x)] H) :
  vSs ns c' b_added_2 [some (.ref a),some (rowD r),some (rowD x)] H K Y:=by
 refine ⟨_,rfl,2,_,rfl,rfl,_,rfl,2,_,rfl,rfl,x.pow==r.pow,rfl,_,rfl,?_⟩
 cases hw:x.pow==r.pow with
 | false=>rw [hw] at h;exact ⟨_,rfl,h⟩
 | true=>
  rw [hw] at h
  refine ⟨_,rfl,1,_,rfl,rfl,_,rfl,1,_,rfl,rfl,!(x.kind==r.kind),rfl,_,rfl,?_⟩
  cases hk:!(x.kind==r.kind) with
  | true=>rw [hk] at h;exact h
  | false=>rw [hk] at h;exact h
theorem added_loop (hC:CT ns defs C) {a:Addr} {r:Row} {t:List Row} (ha:H a=some (.list (t.map rowD))) (hl:t.length<=100000) (h3:clashF t r=true->X 3 H) (hn:clashF t r=false->∀c H',H.Le H'->H c=none->H' c=some (.list ((t++[r]).map rowD))->Q (.ref c) H'):∀(t':List Row) (v:Option D),
  ((t'.any fun x=>x.pow==r.pow&&!(x.kind==r.kind))=true->(t.any fun x=>x.pow==r.pow&&!(x.kind==r.kind))=true)->((t'.any fun x=>x.pow==r.pow&&!(x.kind==r.kind))=false->(t.any fun x=>x.pow==r.pow&&!(x.kind==r.kind))=false) ->
  forL (.ref a) (t.map rowD) (bodyQ 2 (vSs ns (C (n+1)) b_added_2) (fun k _ H'=>X k H'))
   (seqQ (vSs ns (C (n+1)) b_added_1) (retQ Q) (fun k _ H'=>X k H'))
   (t'.map rowD) [some (.ref a),some (rowD r),v] H
 | [],v,_,h2=>by
  have hSZ:SZ=1000000:=rfl
  have hany:=h2 rfl
  have hcl:clashF t r=(roleF t r.word (ahead r)).isSome:=by unfold clashF;rw [hany,Bool.false_or]
  refine ⟨iter_ref ha,_,rfl,_,rfl,3,_,rfl,rfl,_,rfl,1,_,rfl,rfl,r.kind==before,rfl,role_spec hC ha ⟨(roleF t r.word (ahead r)).isSome,?_,_,rfl,?_⟩⟩
  ·show vCmp .isnot (roleD t r.word (ahead r)) .none H=_
   unfold roleD;cases roleF t r.word (ahead r) <;> rfl
  ·rw [<-hcl]
   cases hc:clashF t r with
   | true=>exact h3 hc
   | false=>
    refine ⟨_,rfl,_,rfl,fun f hf=>⟨_,_,set_old ha hf,set_self',by rw [List.length_map];show _+1<=_;exact jl2 (jc2 _ _) j0 (jK 100000) (jK 1000000) j1 (jA j0 (jK 1)) j1 rfl hl (Nat.le_of_eq (Eq.symm hSZ)),fun g hg=>?_⟩⟩
    refine hn hc g _ (le_set (.set _ hf) hg) (none_of_le (.set _ hf) hg) ?_
    rw [set_self',List.map_append];rfl
 | x::t',v,h1,h2=>by
  refine ⟨iter_ref ha,added_body ?_⟩
  rw [List.any_cons] at h1 h2
  split
  ·rename_i q
   exact h3 (by unfold clashF;rw [h1 (by rw [q];rfl)];rfl)
  ·rename_i q
   rw [Bool.not_eq_true] at q
   rw [q,Bool.false_or] at h1 h2
   exact added_loop hC ha hl h3 hn t' _ h1 h2
theorem added_spec (hC:CT ns defs C) {a:Addr} {r:Row} {t:List Row} (hr:Tel ws r) (ha:H a=some (.list (t.map rowD))) (hl:t.length<=100000) (h3:clashF t r=true->X 3 H) (hn:clashF t r=false->∀c H',H.Le H'->H c=none->H' c=some (.list ((t++[r]).map rowD))->Q (.ref c) H'):C (n+3) f_added [.ref a,rowD r] H Q X:=by
 refine hC.intro (df:=d_added) rfl rfl ?_
 exact ⟨_,rfl,is_telling_yes hC hr ⟨true,rfl,false,rfl,_,rfl,_,iter_ref ha,added_loop hC ha hl h3 hn t none id id⟩⟩
theorem added_bad (hC:CT ns defs C) {a:Addr} {d:D} (hd:NT H d) (h:X 2 H):C (n+3) f_added [.ref a,d] H Q X:=by
 refine hC.intro (df:=d_added) rfl rfl ?_
 exact ⟨_,rfl,is_telling_no hC hd ⟨false,rfl,true,rfl,h⟩⟩
theorem row_al (r:Row):Al (rowD r):=.tup _ (fun d hd=>by
 simp only [List.mem_cons,List.not_mem_nil,or_false] at hd
 rcases hd with rfl | rfl | rfl | rfl
 ·exact .str _
 ·exact .str _
 ·exact .int _
 ·exact .str _) (Nat.zero_lt_succ _) (Nat.le_of_ble_eq_true rfl)
end
noncomputable def isB (w:Wd):Bool:=w==[40]||w==[41]
theorem isW_ne {w:Wd} (h:IsW w):(w==[40])=false/\(w==[41])=false:=⟨by simpa using sign_out h n40,by simpa using sign_out h n41⟩
theorem isB_w {w:Wd} (h:IsW w):isB w=false:=by unfold isB;rw [(isW_ne h).1,(isW_ne h).2];rfl
noncomputable def dw (w:Wd):Int:=(if (w==[40])=true then 1 else 0) - (if (w==[41])=true then 1 else 0)
noncomputable def hgo:Int->List Wd->Bool
 | _,[]=>false
 | d,w::l=>if d+dw w=0 then l.isEmpty else hgo (d+dw w) l
noncomputable def heldF (l:List Wd):Bool:=(match l with | []=>false | w::_=>w==[40])&&hgo 0 l
noncomputable def dp:List Wd->Int
 | []=>0
 | w::l=>dw w+dp l
noncomputable def wc:List Wd->Nat
 | []=>0
 | w::l=>(if isB w=true then 0 else 1)+wc l
section
variable {t:List Row} {ws:List (List Nat)}
theorem dp_append (l m:List Wd):dp (l++m)=dp l+dp m:=by
 induction l with
 | nil=>show dp m=0+dp m;exact Int.le_antisymm (ul0 (uc1 _) u0 (uA (uK 0) u0) rfl) (ul0 (uc1 _) (uA (uK 0) u0) u0 rfl)
 | cons w l ih=>show dw w+dp (l++m)=dw w+dp l+dp m;rw [ih];exact Int.le_antisymm (ul0 (uc3 _ _ _) (uA u0 (uA u1 u2)) (uA (uA u0 u1) u2) rfl) (ul0 (uc3 _ _ _) (uA (uA u0 u1) u2) (uA u0 (uA u1 u2)) rfl)
theorem wc_append (l m:List Wd):wc (l++m)=wc l+wc m:=by
 induction l with
 | nil=>show wc m=0+wc m;exact jk75
 | cons w l ih=>show _+wc (l++m)=_+wc l+wc m;rw [ih];exact jk76
theorem dw_w {w:Wd} (h:IsW w):dw w=0:=by unfold dw;rw [(isW_ne h).1,(isW_ne h).2];rfl
theorem Der.dp (ht:Tb ws t) {x:Tre} {p q:Int} {l:List Wd} (h:Der t x p q l):L.dp l=0:=by
 induction h with
 | name h=>show dw _+0=0;rw [dw_w h.iw];rfl
 | par _ ih=>show 1+L.dp (_++_)=0;rw [dp_append,ih];rfl
 | bef hr _ _ _ ih=>show dw _+L.dp _=0;rw [dw_w (ht.tel _ hr).word,ih];rfl
 | beh hr _ _ _ ih=>rw [dp_append,ih];show 0+(dw _+0)=0;rw [dw_w (ht.tel _ hr).word];rfl
 | two hr _ _ _ _ _ _ ih ih'=>rw [dp_append,ih];show 0+(dw _+L.dp _)=0;rw [dw_w (ht.tel _ hr).word,ih'];rfl
theorem Der.wc (ht:Tb ws t) {x:Tre} {p q:Int} {l:List Wd} (h:Der t x p q l):L.wc l=x.cnt:=by
 induction h with
 | name h=>show (if isB _=true then 0 else 1)+0=1;rw [isB_w h.iw];rfl
 | par _ ih=>show 0+L.wc (_++_)=_;rw [wc_append,ih];show 0+(_+0)=_;exact Nat.le_antisymm (jl0 (jc1 _) (jA (jK 0) (jA j0 (jK 0))) j0 rfl) (jl0 (jc1 _) j0 (jA (jK 0) (jA j0 (jK 0))) rfl)
 | bef hr _ _ _ ih=>show (if isB _=true then 0 else 1)+L.wc _=_+1;rw [isB_w (ht.tel _ hr).word,ih];show 1+_=_;exact Nat.le_antisymm (jl0 (jc1 _) (jA (jK 1) j0) (jA j0 (jK 1)) rfl) (jl0 (jc1 _) (jA j0 (jK 1)) (jA (jK 1) j0) rfl)
 | beh hr _ _ _ ih=>rw [wc_append,ih];show _+((if isB _=true then 0 else 1)+0)=_+1;rw [isB_w (ht.tel _ hr).word];rfl
 | two hr _ _ _ _ _ _ ih ih'=>rw [wc_append,ih];show _+((if isB _=true then 0 else 1)+L.wc _)=_+_+1;rw [isB_w (ht.tel _ hr).word,ih'];show _+(1+_)=_;exact Nat.le_antisymm (jl0 (jc2 _ _) (jA j0 (jA (jK 1) j1)) (jA (jA j0 j1) (jK 1)) rfl) (jl0 (jc2 _ _) (jA (jA j0 j1) (jK 1)) (jA j0 (jA (jK 1) j1)) rfl)
theorem Der.ne {x:Tre} {p q:Int} {l:List Wd} (h:Der t x p q l):l≠[]:=by
 cases h <;> simp
theorem hgo_w {w:Wd} {l:List Wd} {d:Int} (hd:0 < d) (h:IsW w):hgo d (w::l)=hgo d l:=by
 show (if d+dw w=0 then _ else hgo (d+dw w) l)=_
 rw [dw_w h,if_neg (by exact Int.ne_of_gt (ul1 (uc1 _) (uA (uK 0) (uK 1)) u0 (uA (uK 0) (uK 1)) (uA u0 (uK 0)) rfl hd)),Int.add_zero]
theorem Der.hgo (ht:Tb ws t) {x:Tre} {p q:Int} {l:List Wd} (h:Der t x p q l):∀{d:Int} {m:List Wd},0 < d->L.hgo d (l++m)=L.hgo d m:=by
 induction h with
 | name h=>exact fun hd=>hgo_w hd h.iw
 | par _ ih=>
  intro d m hd
  show (if d+1=0 then _ else L.hgo (d+1) (_++m))=_
  rw [if_neg (by exact Int.ne_of_gt (ul1 (uc1 _) (uA (uK 0) (uK 1)) u0 (uA (uK 0) (uK 1)) (uA u0 (uK 1)) rfl hd)),List.append_assoc,ih (by exact ul1 (uc1 _) (uA (uK 0) (uK 1)) u0 (uA (uK 0) (uK 1)) (uA u0 (uK 1)) rfl hd)]
  show (if d+1+(0 - 1)=0 then _ else L.hgo (d+1+(0 - 1)) m)=_
  rw [show d+1+(0 - 1)=d by exact Int.le_antisymm (ul0 (uc1 _) (uA (uA u0 (uK 1)) (uS (uK 0) (uK 1))) u0 rfl) (ul0 (uc1 _) u0 (uA (uA u0 (uK 1)) (uS (uK 0) (uK 1))) rfl),if_neg (by exact jk46 hd)]
 | bef hr _ _ _ ih=>intro d m hd;rw [List.cons_append,hgo_w hd (ht.tel _ hr).word,ih hd]
 | beh hr _ _ _ ih=>intro d m hd;rw [List.append_assoc,ih hd];exact hgo_w hd (ht.tel _ hr).word
 | two hr _ _ _ _ _ _ ih ih'=>intro d m hd;rw [List.append_assoc,ih hd,List.cons_append,hgo_w hd (ht.tel _ hr).word,ih' hd]
theorem hgo_open (m:List Wd):hgo 0 ([40]::m)=hgo 1 m:=rfl
theorem hgo_close (m:List Wd):hgo 1 ([41]::m)=m.isEmpty:=rfl
theorem Der.open (ht:Tb ws t) {x:Tre} {p q:Int} {l:List Wd} (h:Der t x p q l):∀{l' m:List Wd},l=[40]::l'->m≠[]->L.hgo 0 (l++m)=false:=by
 induction h with
 | name h=>intro l' m e;cases e;exact absurd rfl (sign_out h.iw n40)
 | par h _=>
  intro l' m _ hm
  rw [List.cons_append,hgo_open,List.append_assoc,h.hgo ht (by decide)]
  show L.hgo 1 ([41]::m)=false
  rw [hgo_close];simpa using hm
 | bef hr _ _ _ _=>intro l' m e;exact absurd (List.cons.inj e).1 (sign_out (ht.tel _ hr).word n40)
 | @beh r x p q l _ _ _ h ih=>
  intro l' m e hm
  rw [List.append_assoc]
  obtain ⟨w,l1,rfl⟩:=List.exists_cons_of_ne_nil h.ne
  exact ih (l':=l1) (by rw [(List.cons.inj e).1]) (by simp)
 | @two r x y p q p' q' l l2 _ _ _ _ _ h _ ih _=>
  intro l' m e hm
  rw [List.append_assoc]
  obtain ⟨w,l1,rfl⟩:=List.exists_cons_of_ne_nil h.ne
  exact ih (l':=l1) (by rw [(List.cons.inj e).1]) (by simp)
theorem held_no (ht:Tb ws t) {x:Tre} {p q:Int} {l m:List Wd} (h:Der t x p q l) (hm:m≠[]):heldF (l++m)=false:=by
 obtain ⟨w,l1,rfl⟩:=List.exists_cons_of_ne_nil h.ne
 unfold heldF
 show (w==[40]&&hgo 0 (w::l1++m))=false
 cases e:w==[40] with
 | false=>rfl
 | true=>rw [h.open ht (by rw [eq_of_beq e]) hm];rfl
theorem held_w {w:Wd} {l:List Wd} (h:IsW w):heldF (w::l)=false:=by
 unfold heldF;show (w==[40]&&_)=false;rw [(isW_ne h).1];rfl
theorem held_par (ht:Tb ws t) {x:Tre} {p q:Int} {l:List Wd} (h:Der t x p q l):heldF ([40]::(l++[[41]]))=true:=by
 unfold heldF;show (true&&hgo 1 (l++[[41]]))=true;rw [h.hgo ht (by decide)];rfl
theorem held_form {l:List Wd} (h:heldF l=true):∃m,l=[40]::(m++[[41]]):=by
 have go:∀(m:List Wd) (d:Int),0 < d->hgo d m=true->∃m',m=m'++[[41]]:=by
  intro m
  induction m with
  | nil=>intro d _ h;cases h
  | cons w m ih=>
   intro d hd h
   have h:(if d+dw w=0 then m.isEmpty else hgo (d+dw w) m)=true:=h
   split at h
   ·rename_i e
    have hm:m=[]:=by simpa using h
    have:w=[41]:=by
     unfold dw at e
     split at e <;> split at e
     ·omega
     ·omega
     ·rename_i q;simpa using q
     ·omega
    exact ⟨[],by rw [hm,this];rfl⟩
   ·rename_i e
    have:0 < d+dw w:=by unfold dw at e ⊢;split at e <;> split at e <;> rename_i q1 q2 <;> simp only [q1,q2,if_true,if_false,Bool.false_eq_true] <;> omega
    obtain ⟨m',rfl⟩:=ih _ this h
    exact ⟨w::m',rfl⟩
 unfold heldF at h
 rw [Bool.and_eq_true_iff] at h
 cases l with
 | nil=>cases h.1
 | cons w l=>
  have e:w=[40]:=by simpa using h.1
  subst e
  obtain ⟨m,rfl⟩:=go l 1 (by decide) h.2
  exact ⟨m,rfl⟩
inductive RootAt (t:List Row):Tre->Nat->List Wd->Prop
 | bef {r:Row} {x:Tre} {p q:Int} {l:List Wd} (hr:r∈t) (hk:r.kind=before) (he:enF r.kind 0 r.pow p=true) (h:Der t x p q l):RootAt t (.one r x) 0 (r.word::l)
 | beh {r:Row} {x:Tre} {p q:Int} {l:List Wd} (hr:r∈t) (hk:r.kind=behind) (he:enF r.kind 0 r.pow p=true) (h:Der t x p q l):RootAt t (.one r x) l.length (l++[r.word])
 | two {r:Row} {x y:Tre} {p q p' q':Int} {l l':List Wd} (hr:r∈t) (h1:r.kind≠before) (h2:r.kind≠behind) (he:enF r.kind 0 r.pow p=true) (he':enF r.kind 1 r.pow p'=true) (h:Der t x p q l) (h':Der t y p' q' l'):RootAt t (.two r x y) l.length (l++r.word::l')
theorem RootAt.der {x:Tre} {k:Nat} {l:List Wd} (h:RootAt t x k l):∃p q,Der t x p q l:=by
 induction h with
 | bef hr hk he h=>exact ⟨_,_,.bef hr hk he h⟩
 | beh hr hk he h=>exact ⟨_,_,.beh hr hk he h⟩
 | two hr h1 h2 he he' h h'=>exact ⟨_,_,.two hr h1 h2 he he' h h'⟩
theorem Der.held (ht:Tb ws t) {x:Tre} {p q:Int} {l:List Wd} (h:Der t x p q l):(heldF l=true/\p=31/\∃p' q' m,Der t x p' q' m/\l=[40]::(m++[[41]]))\/(heldF l=false/\p=x.pow/\((∃w,x=.name w/\l=[w]/\IsNm t w)\/(1 < l.length/\∃k,RootAt t x k l))):=by
 induction h using Der.casesOn with
 | name h=>exact Or.inr ⟨held_w h.iw,rfl,Or.inl ⟨_,rfl,rfl,h⟩⟩
 | par h=>exact Or.inl ⟨held_par ht h,rfl,_,_,_,h,rfl⟩
 | bef hr hk he h=>exact Or.inr ⟨held_w (ht.tel _ hr).word,rfl,Or.inr ⟨by have:=List.length_pos_iff.mpr h.ne;rw [List.length_cons];exact jk94 this,_,.bef hr hk he h⟩⟩
 | beh hr hk he h=>exact Or.inr ⟨held_no ht h (by simp),rfl,Or.inr ⟨by have:=List.length_pos_iff.mpr h.ne;rw [List.length_append,List.length_singleton];exact jk94 this,_,.beh hr hk he h⟩⟩
 | two hr h1 h2 he he' h h'=>exact Or.inr ⟨held_no ht h (by simp),rfl,Or.inr ⟨by have:=List.length_pos_iff.mpr h.ne;rw [List.length_append,List.length_cons];exact jl1 (jc2 _ _) (jA (jK 0) (jK 1)) j0 (jA (jK 1) (jK 1)) (jA j0 (jA j1 (jK 1))) rfl this,_,.two hr h1 h2 he he' h h'⟩⟩
theorem RootAt.place (ht:Tb ws t) {x:Tre} {k k':Nat} {l:List Wd} (h:RootAt t x k l) (h':RootAt t x k' l):k=k':=by
 generalize e:l=l0 at h'
 have cut:∀{l m l' m':List Wd} {w:Wd},l++w::m=l'++w::m'->isB w=false->wc l=wc l'->¬l.length < l'.length:=by
  intro l m l' m' w e hw hc hl
  have e1:=congrArg (List.take (l.length+1)) e
  rw [List.take_append,List.take_of_length_le (by exact jk6),Nat.add_sub_cancel_left,List.take_append_of_le_length (by exact jk4 hl)] at e1
  have e2:=congrArg wc e1
  have:wc l'=wc (l'.take (l.length+1))+wc (l'.drop (l.length+1)):=by rw [<-wc_append,List.take_append_drop]
  have e3:wc (l++(w::m).take 1)=wc l+1:=by rw [wc_append];show _+((if isB w=true then 0 else 1)+0)=_;rw [hw];rfl
  exact Nat.not_succ_le_zero 0 (jl3 (jc5 _ _ _ _ _) j3 j0 (jA j2 j4) j3 (jA (jA j0 (jK 1)) j1) (jA j1 j2) (jK 1) (jK 0) rfl (Nat.le_of_eq (Eq.symm hc)) (Nat.le_of_eq (Eq.symm this)) (Nat.add_le_add (Nat.le_of_eq (Eq.symm e3)) (Nat.le_of_eq e2)))
 cases h with
 | @bef r x p q l hr hk he h=>
  cases h' with
  | bef _ _ _ _=>rfl
  | beh _ hk' _ _=>rw [hk] at hk';cases hk'
 | @beh r x p q l hr hk he h=>
  cases h' with
  | bef _ hk' _ _=>rw [hk] at hk';cases hk'
  | beh _ _ _ _=>have:=congrArg List.length e;simpa using this
 | @two r x y p q p' q' l l' hr h1 h2 he he' h g=>
  cases h' with
  | @two _ _ _ _ _ _ _ m m' _ _ _ _ _ h3 g3=>
   have hw:=isB_w (ht.tel r hr).word
   have hc:=(h.wc ht).trans (h3.wc ht).symm
   have a:=cut e hw hc
   have b:=cut e.symm hw hc.symm
   exact Nat.le_antisymm (jl1 (jc2 _ _) j0 j1 j0 j1 rfl (Nat.le_of_not_lt b)) (jl1 (jc2 _ _) j0 j1 j0 j1 rfl (Nat.le_of_not_lt a))
theorem RootAt.deep (ht:Tb ws t) {x:Tre} {k:Nat} {l:List Wd} (h:RootAt t x k l):k < l.length/\dp (l.take (k+1))=0/\l[k]?≠some [41]:=by
 induction h with
 | bef hr hk he h=>exact ⟨by simp,by show dw _+0=0;rw [dw_w (ht.tel _ hr).word];rfl,by simpa using sign_out (ht.tel _ hr).word n41⟩
 | beh hr hk he h=>exact ⟨by simp,by rw [List.take_of_length_le (by simp),dp_append,h.dp ht];show 0+(dw _+0)=0;rw [dw_w (ht.tel _ hr).word];rfl,by simpa using sign_out (ht.tel _ hr).word n41⟩
 | two hr h1 h2 he he' h h'=>
  refine ⟨by simp,?_,by simpa using sign_out (ht.tel _ hr).word n41⟩
  rw [List.take_append,List.take_of_length_le (by exact jk6),Nat.add_sub_cancel_left,dp_append,h.dp ht]
  show 0+(dw _+0)=0
  rw [dw_w (ht.tel _ hr).word];rfl
end
theorem eq_nil {e a:Addr} {ds:List D} (he:H e=some (.list ds)) (ha:H a=some (.list [])):vCmp .eq (.ref e) (.ref a) H=some ds.isEmpty:=by
 show eqL (H e) (H a)=_
 rw [he,ha]
 cases ds with
 | nil=>rfl
 | cons d ds=>rfl
section
variable {t:List Row} {ws:List (List Nat)} {a b:Addr} {row:List Wd}
theorem held_loop {c':CallT} {Y:Nat->Loc->Hp->Prop} (hb:H b=some (.list (strD row))) (h0:row.head?=some [40]) (hl:row.length<=10000):∀(m k:Nat) (d:Int) (x2:Option D),k+m=row.length->(k=0->d=0)->Q (.bool (hgo d (row.drop k))) H ->
  forL (.rng 0 row.length) ((List.range row.length).map fun k:Nat=>D.int k) (bodyQ 2 (vSs ns c' b_l_held_2) Y) (seqQ (vSs ns c' b_l_held_0) (retQ Q) Y)
   ((List.range' k m).map fun k:Nat=>D.int k) [some (.ref b),some (.int d),x2] H
 | 0,k,d,x2,hk,hd,h=>⟨iter_range (by exact jk11 hl),by rw [show row.drop k=[] from List.drop_eq_nil_iff.mpr (by exact jl1 (jc2 _ _) j0 (jA j1 (jK 0)) j0 j1 rfl (Nat.le_of_eq (Eq.symm hk)))] at h;exact h⟩
 | m+1,k,d,x2,hk,hd,h=>by
  have hlt:k < row.length:=by exact jk33 hk
  rw [List.drop_eq_getElem_cons hlt] at h
  have hit:∀{Q:D->Hp->Prop},Q (.str row[k]) H->vItem (.ref b) (.int (k:Int)) ns H Q:=fun q=>row_at (k:=k) hb hlt q
  refine ⟨iter_range (by exact jk11 hl),_,rfl,_,rfl,_,rfl,hit (Q:=fun d H=>_) ⟨row[k]==[40],rfl,_,rfl,_,rfl,hit (Q:=fun d H=>_) ⟨row[k]==[41],rfl,?_⟩⟩⟩
  have e:d+(if (row[k]==[40])=true then 1 else 0:Int) - (if (row[k]==[41])=true then 1 else 0:Int)=d+dw row[k]:=by unfold dw;exact jk95
  show vSs ns c' b_l_held_1 [some (.ref b),some (.int (d+(if (row[k]==[40])=true then 1 else 0:Int) - (if (row[k]==[41])=true then 1 else 0:Int))),some (.int k)] H _ Y
  rw [e]
  have h:Q (.bool (if d+dw row[k]=0 then (row.drop (k+1)).isEmpty else hgo (d+dw row[k]) (row.drop (k+1)))) H:=h
  refine ⟨_,rfl,d+dw row[k]==0,rfl,_,rfl,?_⟩
  by_cases hz:d+dw row[k]=0
  ·rw [if_pos hz] at h
   rw [hz]
   have hk0:k≠0:=fun q=>by
    subst q
    have:row[0]=[40]:=by
     cases row with
     | nil=>cases h0
     | cons w l=>exact Option.some.inj h0
    rw [hd rfl,this] at hz
    exact absurd hz (by decide)
   refine ⟨_,rfl,decide ((k:Int) > 0),rfl,_,rfl,?_⟩
   rw [decide_eq_true (by omega)]
   refine ⟨_,rfl,_,rfl,_,hb,(k:Int)==((strD row).length:Int) - 1,rfl,?_⟩
   rw [len_strD]
   rw [show (row.drop (k+1)).isEmpty=((k:Int)==(row.length:Int) - 1) by rw [Bool.eq_iff_iff];simp;omega] at h
   exact h
  ·rw [if_neg hz] at h
   rw [beq_eq_false_iff_ne.mpr hz]
   exact held_loop hb h0 hl m (k+1) _ _ (by exact jk10 hk) (fun q=>by omega) h
theorem held_spec (hC:CT ns defs C) (hb:H b=some (.list (strD row))) (hl:row.length<=10000) (h:∀H',H.Le H'->Q (.bool (heldF row)) H'):C (n+1) f_l_held [.ref b] H Q X:=by
 refine hC.intro (df:=d_l_held) rfl rfl ?_
 refine ⟨_,rfl,fun c hc=>⟨_,eq_nil (set_old hb hc) set_self',_,rfl,?_⟩⟩
 have hb1:=set_old hb hc (o:=.list [])
 have h:=h _ (.set (.list []) hc)
 cases row with
 | nil=>exact ⟨true,rfl,h⟩
 | cons w l=>
  refine ⟨_,rfl,row_at (ns:=ns) (k:=0) (Q:=fun d H=>_) hb1 (by simp) ⟨!(w==[40]),rfl,_,rfl,?_⟩⟩
  have h:Q (.bool ((w==[40])&&hgo 0 (w::l))) _:=h
  cases hw:w==[40] with
  | false=>rw [hw] at h;exact h
  | true=>
   rw [hw] at h
   refine ⟨_,rfl,_,hb1,?_⟩
   rw [len_strD]
   refine ⟨_,iter_range (by exact jk11 hl),?_⟩
   have hh:=held_loop (ns:=ns) (c':=C n) (Y:=fun k _ H'=>X k H') hb1 (by rw [eq_of_beq hw];rfl) hl (w::l).length 0 0 none (by exact jk34) (fun _=>rfl) h
   rw [<-List.range_eq_range'] at hh
   exact hh
noncomputable def Ans (t:List Row) (row:List Wd):Option Tre->Prop
 | some x=>∃p q,Der t x p q row
 | none=>∀x p q,¬Der t x p q row
noncomputable def Fit (t:List Row) (r:Row) (pl:Nat) (row:List Wd):Option Tre->Prop
 | some x=>∃p q,Der t x p q row/\enF r.kind pl r.pow p=true
 | none=>∀x p q,Der t x p q row->enF r.kind pl r.pow p=false
noncomputable def oL:Option Tre->List D
 | some x=>[x.d]
 | none=>[]
noncomputable def TreesAt (C:Nat->CallT) (t:List Row) (a:Addr) (N:Nat) (row:List Wd):Prop:=∀⦃H:Hp⦄ ⦃Q:D->Hp->Prop⦄ ⦃X:Nat->Hp->Prop⦄ ⦃b:Addr⦄,H a=some (.list (t.map rowD))->H b=some (.list (strD row)) ->
 (∀e o H',H.Le H'->Ans t row o->H' e=some (.list (oL o))->Q (.ref e) H')->C N f_l_trees [.ref a,.ref b] H Q X
theorem Der.ok {x:Tre} {p q:Int} {l:List Wd} (h:Der t x p q l):x.ok t:=by
 induction h with
 | name h=>exact h
 | par _ ih=>exact ih
 | bef hr hk _ _ ih=>exact ⟨⟨hr,.inl hk⟩,ih⟩
 | beh hr hk _ _ ih=>exact ⟨⟨hr,.inr hk⟩,ih⟩
 | two hr hk1 hk2 _ _ _ _ ih ih'=>exact ⟨⟨hr,hk1,hk2⟩,ih,ih'⟩
theorem en_31 {k:List Nat} {pl:Nat} {pow:Int} (h:pow<=30):enF k pl pow 31=true:=by
 unfold enF;split <;> exact decide_eq_true (by (first | exact jk92 h | exact jk91 h))
theorem fit_spec (hC:CT ns defs C) {r:Row} {pl:Nat} (ht:Tb ws t) (hr:r∈t) (hpl:pl < places r.kind) (hl:row.length<=10000) (IH:TreesAt C t a (n+2) row) (ha:H a=some (.list (t.map rowD))) (hb:H b=some (.list (strD row)))
  (h:∀e o H',H.Le H'->Fit t r pl row o->H' e=some (.list (oL o))->Q (.ref e) H'):C (n+3) f_l_fit [.ref a,rowD r,.int pl,.ref b] H Q X:=by
 refine hC.intro (df:=d_l_fit) rfl rfl ?_
 refine ⟨_,rfl,_,rfl,IH ha hb fun e o H1 hle ho he=>?_⟩
 refine ⟨_,rfl,held_spec hC (hle b _ hb) hl fun H2 hle2=>⟨_,rfl,?_⟩⟩
 have he2:=hle2 e _ he
 have ha2:=hle2 a _ (hle a _ ha)
 cases hh:heldF row with
 | true=>
  refine ⟨_,rfl,h e o H2 (hle.trans hle2) ?_ he2⟩
  cases o with
  | none=>exact fun x p q hd=>absurd hd (ho x p q)
  | some x=>
   obtain ⟨p,q,hd⟩:=ho
   refine ⟨p,q,hd,?_⟩
   rcases hd.held ht with ⟨_,rfl,_⟩ | ⟨e,_⟩
   ·exact en_31 (ht.tel r hr).hi
   ·rw [e] at hh;cases hh
 | false=>
  refine ⟨_,rfl,_,iter_ref he2,?_⟩
  cases o with
  | none=>exact ⟨iter_ref he2,fun g hg=>h g none _ (le_set (hle.trans hle2) hg) (fun x p q hd=>absurd hd (ho x p q)) set_self'⟩
  | some x=>
   obtain ⟨p,q,hd⟩:=ho
   have hp:p=x.pow:=by
    rcases hd.held ht with ⟨e,_⟩ | ⟨_,e,_⟩
    ·rw [e] at hh;cases hh
    ·exact e
   subst hp
   refine ⟨iter_ref he2,_,rfl,_,rfl,_,rfl,_,rfl,l_strength_spec hC ht (Tre.powd hd.ok) ha2 (l_enough_spec hC (ht.tel r hr).kind hpl fun H3 hle3=>⟨_,rfl,?_⟩)⟩
   have hle4:=(hle.trans hle2).trans hle3
   cases he:enF r.kind pl r.pow x.pow with
   | true=>exact ⟨_,rfl,iter_ref (hle3 e _ he2),fun g hg=>h g (some x) _ (le_set hle4 hg) ⟨_,_,hd,he⟩ set_self'⟩
   | false=>exact ⟨iter_ref (hle3 e _ he2),fun g hg=>h g none _ (le_set hle4 hg) (fun y p' q' hd'=>by obtain ⟨_,rfl⟩:=hd'.uniq ht hd;exact he) set_self'⟩
noncomputable def RAns (t:List Row) (row:List Wd) (k:Nat):Option Tre->Prop
 | some x=>RootAt t x k row
 | none=>∀x,¬RootAt t x k row
inductive RW (t:List Row) (row:List Wd) (k:Nat):Prop
 | fore (r:Row) (y:Tre) (p q:Int) (hr:r∈t) (hw:row[k]?=some r.word) (hk:r.kind=before) (h0:k=0) (hd:Der t y p q (row.drop 1)) (he:enF r.kind 0 r.pow p=true)
 | hind (r:Row) (y:Tre) (p q:Int) (hr:r∈t) (hw:row[k]?=some r.word) (hk:r.kind=behind) (h0:0 < k) (hl:k+1=row.length) (hd:Der t y p q (row.take k)) (he:enF r.kind 0 r.pow p=true)
 | mid (r:Row) (y y':Tre) (p q p' q':Int) (hr:r∈t) (hw:row[k]?=some r.word) (h1:r.kind≠before) (h2:r.kind≠behind) (h0:0 < k) (hd:Der t y p q (row.take k)) (he:enF r.kind 0 r.pow p=true) (hd':Der t y' p' q' (row.drop (k+1))) (he':enF r.kind 1 r.pow p'=true)
theorem RootAt.tells {x:Tre} {k:Nat} (h:RootAt t x k row):RW t row k:=by
 induction h with
 | bef hr hk he h=>exact .fore _ _ _ _ hr rfl hk rfl h he
 | beh hr hk he h=>exact .hind _ _ _ _ hr (by simp) hk (List.length_pos_iff.mpr h.ne) (by simp) (by rw [List.take_left'];exact h;rfl) he
 | two hr h1 h2 he he' h h'=>exact .mid _ _ _ _ _ _ _ hr (by simp) h1 h2 (List.length_pos_iff.mpr h.ne) (by rw [List.take_left'];exact h;rfl) he (by rw [<-List.drop_drop,List.drop_left'];exact h';rfl) he'
theorem slice_row {lo hi:D} {x y:Nat} (hb:H b=some (.list (strD row))) (h1:clipAt row.length 0 lo=some x) (h2:clipAt row.length row.length hi=some y) (h:∀c,H c=none->Q (.ref c) (H.set c (.list (strD ((row.take y).drop x))))):vSlice (.ref b) lo hi H Q:=
 ⟨strD row,x,y,hb,by rw [len_strD];exact h1,by rw [len_strD];exact h2,fun c hc=>by rw [show ((strD row).take y).drop x=strD ((row.take y).drop x) by unfold strD;rw [List.map_drop,List.map_take]];exact h c hc⟩
theorem clip_nat {n d k:Nat} (h:k<=n):clipAt n d (.int k)=some k:=by
 show some (if (0:Int)<=(k:Int) then min (k:Int).toNat n else _)=_
 rw [if_pos (by exact jk1)];congr 1;omega
theorem roleD_some {w:Wd} {v:Bool} {r:Row} (h:roleF t w v=some r):roleD t w v=rowD r:=by unfold roleD;rw [h]
theorem roleD_none {w:Wd} {v:Bool} (h:roleF t w v=none):roleD t w v=.none:=by unfold roleD;rw [h]
theorem oL_comp {e:Addr} {f:D->Hp->(Option D->Hp->Prop)->Prop} {Qf:List D->Hp->Prop} (g:Tre->Tre) (o:Option Tre) (he:H e=some (.list (oL o))) (hf:∀x (K:Option D->Hp->Prop),o=some x->K (some (g x).d) H->f x.d H K) (hQ:Qf (oL (o.map g)) H):compL (.ref e) (oL o) f Qf (oL o) [] H:=
 match o with
 | none=>⟨iter_ref he,hQ⟩
 | some x=>⟨iter_ref he,hf x _ rfl ⟨iter_ref he,hQ⟩⟩
theorem by_root_spec (hC:CT ns defs C) {k:Nat} (ht:Tb ws t) (hk:k < row.length) (hl:row.length<=10000) (IH:∀row':List Wd,row'.length < row.length->(∀w∈row',w∈row)->TreesAt C t a (n+2) row') (ha:H a=some (.list (t.map rowD))) (hb:H b=some (.list (strD row)))
  (h:∀e o H',H.Le H'->RAns t row k o->H' e=some (.list (oL o))->Q (.ref e) H'):C (n+4) f_l_by_root [.ref a,.ref b,.int k] H Q X:=by
 have hget:row[k]?=some row[k]:=List.getElem?_eq_getElem hk
 have uniq:∀{r:Row},r∈t->row[k]?=some r.word->roleF t row[k] (ahead r)=some r:=fun {r} hr hw=>by
  rw [hget] at hw
  rw [Option.some.inj hw]
  exact ht.uniq r hr
 refine hC.intro (df:=d_l_by_root) rfl rfl ?_
 refine ⟨_,rfl,_,rfl,_,rfl,row_at (ns:=ns) (Q:=fun d H=>_) hb hk (l_role_spec hC ha ?_)⟩
 refine ⟨_,rfl,_,rfl,_,rfl,row_at (ns:=ns) (Q:=fun d H=>_) hb hk (l_role_spec hC ha ?_)⟩
 refine ⟨_,rfl,(k:Int)==0,rfl,_,rfl,?_⟩
 by_cases h0:k=0
 ·subst h0
  cases hA:roleF t row[0] true with
  | none=>
   rw [roleD_none hA]
   refine ⟨_,rfl,false,rfl,false,rfl,_,rfl,true,rfl,true,rfl,true,rfl,fun c hc=>h c none _ (.set _ hc) (fun x hx=>?_) set_self'⟩
   cases hx.tells with
   | fore r y p q hr hw hk _ _ _=>
    have:=uniq hr hw
    rw [show ahead r=true by unfold ahead;rw [hk];rfl,hA] at this
    cases this
   | hind _ _ _ _ _ _ _ h0=>exact absurd h0 (by decide)
   | mid _ _ _ _ _ _ _ _ _ _ _ h0=>exact absurd h0 (by decide)
  | some r=>
   rw [roleD_some hA]
   obtain ⟨hr,hw,hah⟩:=role_mem hA
   have hk:r.kind=before:=by unfold ahead at hah;exact eq_of_beq hah
   refine ⟨_,rfl,true,rfl,true,rfl,?_⟩
   refine ⟨_,rfl,_,rfl,_,rfl,slice_row hb (x:=1) (y:=row.length) (clip_nat (k:=1) (by exact jl1 (jc1 _) (jA (jK 0) (jK 1)) j0 (jK 1) j0 rfl ‹_›)) rfl fun c hc=>?_⟩
   rw [List.take_length]
   refine fit_spec (pl:=0) hC ht hr one_place (by rw [List.length_drop];exact jl2 (jc2 (_ - (1:Nat)) _) j1 (jK 10000) j0 j1 j0 (jK 10000) rfl hl (Nat.sub_le _ (1:Nat))) (IH _ (by rw [List.length_drop];exact jl1 (jc2 (_ - (1:Nat)) _) (jA j0 (jK 1)) j1 (jA j0 (jK 1)) j1 rfl (Nat.le_of_eq (Nat.sub_add_cancel (jl1 (jc1 _) (jA (jK 0) (jK 1)) j0 (jK 1) j0 rfl ‹_›)))) fun _=>List.mem_of_mem_drop) (set_old ha hc) set_self' fun e o H2 hle ho he=>⟨_,iter_ref he,oL_comp (.one r) o he (fun x K ho hK=>?_) fun g hg=>?_⟩
   ·rw [show (Tre.one r x).d=.tup [.str before,.str row[0],x.d] by show D.tup [.str r.kind,.str r.word,x.d]=_;rw [hk,hw]] at hK
    exact ⟨_,rfl,_,rfl,row_at (ns:=ns) (k:=0) (Q:=fun d H=>_) (hle b _ (set_old hb hc)) (by exact jl1 (jc1 _) (jA (jK 0) (jK 1)) j0 (jA (jK 0) (jK 1)) j0 rfl ‹_›) ⟨_,rfl,hK⟩⟩
   ·refine h g (o.map (.one r)) _ (le_set ((Hp.Le.set _ hc).trans hle) hg) ?_ set_self'
    cases o with
    | some x=>
     obtain ⟨p,q,hd,he⟩:=ho
     have hroot:=RootAt.bef hr hk he hd
     have e:r.word::row.drop 1=row:=by
      rw [hw]
      exact (List.drop_eq_getElem_cons (i:=0) (by omega)).symm
     rw [e] at hroot
     exact hroot
    | none=>
     intro x hx
     cases hx.tells with
     | fore r' y p q hr' hw' hk' _ hd he=>
      have:=uniq hr' hw'
      rw [show ahead r'=true by unfold ahead;rw [hk'];rfl,hA] at this
      cases this
      rw [ho y p q hd] at he
      cases he
     | hind _ _ _ _ _ _ _ h0=>exact absurd h0 (by decide)
     | mid _ _ _ _ _ _ _ _ _ _ _ h0=>exact absurd h0 (by decide)
 ·rw [show ((k:Int)==0)=false from beq_eq_false_iff_ne.mpr (by exact jk96 h0)]
  refine ⟨false,rfl,_,rfl,(k:Int)==0,rfl,_,rfl,?_⟩
  rw [show ((k:Int)==0)=false from beq_eq_false_iff_ne.mpr (by exact jk96 h0)]
  cases hB:roleF t row[k] false with
  | none=>
   rw [roleD_none hB]
   refine ⟨_,rfl,true,rfl,true,rfl,fun c hc=>h c none _ (.set _ hc) (fun x hx=>?_) set_self'⟩
   cases hx.tells with
   | fore _ _ _ _ _ _ _ h0'=>exact h0 h0'
   | hind r y p q hr hw hk _ _ _ _=>
    have:=uniq hr hw
    rw [show ahead r=false by unfold ahead;rw [hk];rfl,hB] at this
    cases this
   | mid r y y' p q p' q' hr hw h1 h2 _ _ _ _ _=>
    have:=uniq hr hw
    rw [show ahead r=false by unfold ahead;simp [h1],hB] at this
    cases this
  | some r=>
   rw [roleD_some hB]
   obtain ⟨hr,hw,hah⟩:=role_mem hB
   have h1:r.kind≠before:=fun q=>by unfold ahead at hah;rw [q] at hah;cases hah
   refine ⟨_,rfl,false,rfl,false,rfl,?_⟩
   have same:∀{r':Row},r'∈t->row[k]?=some r'.word->r'.kind≠before->r=r':=fun {r'} hr' hw' hk'=>by
    have:=uniq hr' hw'
    rw [show ahead r'=false by unfold ahead;simp [hk'],hB] at this
    exact Option.some.inj this
   have hcut:row.take k++r.word::row.drop (k+1)=row:=by rw [hw,<-List.drop_eq_getElem_cons hk,List.take_append_drop]
   have htl:(row.take k).length=k:=by rw [List.length_take];omega
   refine ⟨_,rfl,_,rfl,_,rfl,_,rfl,slice_row hb (x:=0) (y:=k) rfl (clip_nat (by exact jl1 (jc2 _ _) (jA j0 (jK 1)) j1 j0 j1 rfl hk)) fun c hc=>?_⟩
   rw [List.drop_zero]
   refine fit_spec (pl:=0) hC ht hr one_place (by exact jl3 (jc3 _ _ _) j0 j1 (jA j1 (jK 1)) j2 j2 (jK 10000) j0 (jK 10000) rfl (Nat.le_of_eq htl) hk hl) (IH _ (by exact jl2 (jc3 _ _ _) j0 j2 (jA j2 (jK 1)) j1 (jA j0 (jK 1)) j1 rfl (Nat.le_of_eq htl) hk) fun _=>List.mem_of_mem_take) (set_old ha hc) set_self' fun e o H2 hle ho he=>?_
   have hle2:=(Hp.Le.set (.list (strD (row.take k))) hc).trans hle
   have hb2:=hle2 b _ hb
   refine ⟨_,rfl,1,_,rfl,rfl,r.kind==behind,rfl,_,rfl,?_⟩
   by_cases h2:r.kind=behind
   ·rw [h2]
    refine ⟨_,rfl,_,rfl,_,hb2,(k:Int)==((strD row).length:Int) - 1,rfl,_,rfl,?_⟩
    rw [len_strD]
    by_cases hlast:k+1=row.length
    ·rw [show ((k:Int)==(row.length:Int) - 1)=true from beq_iff_eq.mpr (by exact Int.le_antisymm (ul1 (uc2 ((_:Nat):Int) ((_:Nat):Int)) (uA u0 (uK 1)) u1 u0 (uS u1 (uK 1)) rfl (Int.ofNat_le.mpr (Nat.le_of_eq hlast))) (ul1 (uc2 ((_:Nat):Int) ((_:Nat):Int)) u0 (uA u1 (uK 1)) (uS u0 (uK 1)) u1 rfl (Int.ofNat_le.mpr (Nat.le_of_eq (Eq.symm hlast)))))]
     refine ⟨_,rfl,_,iter_ref he,oL_comp (.one r) o he (fun x K ho hK=>?_) fun g hg=>?_⟩
     ·rw [show (Tre.one r x).d=.tup [.str behind,.str row[k],x.d] by show D.tup [.str r.kind,.str r.word,x.d]=_;rw [h2,hw]] at hK
      exact ⟨_,rfl,_,rfl,row_at (ns:=ns) (Q:=fun d H=>_) hb2 hk ⟨_,rfl,hK⟩⟩
     ·refine h g (o.map (.one r)) _ (le_set hle2 hg) ?_ set_self'
      cases o with
      | some x=>
       obtain ⟨p,q,hd,he⟩:=ho
       have hroot:=RootAt.beh hr h2 he hd
       rw [List.drop_eq_nil_iff.mpr (by omega)] at hcut
       rw [hcut,htl] at hroot
       exact hroot
      | none=>
       intro x hx
       cases hx.tells with
       | fore _ _ _ _ _ _ _ h0'=>exact h0 h0'
       | hind r' y p q hr' hw' hk' _ _ hd he=>
        cases same hr' hw' (fun q=>by rw [q] at hk';cases hk')
        rw [ho y p q hd] at he
        cases he
       | mid r' y y' p q p' q' hr' hw' h1' h2' _ _ _ _ _=>
        cases same hr' hw' h1'
        exact h2' h2
    ·rw [show ((k:Int)==(row.length:Int) - 1)=false from beq_eq_false_iff_ne.mpr (by omega)]
     refine ⟨_,rfl,1,_,rfl,rfl,r.kind==behind,rfl,_,rfl,?_⟩
     rw [h2]
     refine ⟨true,rfl,fun g hg=>h g none _ (le_set hle2 hg) (fun x hx=>?_) set_self'⟩
     cases hx.tells with
     | fore _ _ _ _ _ _ _ h0'=>exact h0 h0'
     | hind r' y p q hr' hw' hk' _ hlast' hd he=>exact hlast hlast'
     | mid r' y y' p q p' q' hr' hw' h1' h2' _ _ _ _ _=>
      cases same hr' hw' h1'
      exact h2' h2
   ·rw [show (r.kind==behind)=false from beq_eq_false_iff_ne.mpr h2]
    refine ⟨false,rfl,_,rfl,1,_,rfl,rfl,r.kind==behind,rfl,_,rfl,?_⟩
    rw [show (r.kind==behind)=false from beq_eq_false_iff_ne.mpr h2]
    refine ⟨_,rfl,fun f hf=>⟨_,eq_nil (set_old he hf) set_self',_,rfl,?_⟩⟩
    have hle3:=le_set (o:=.list []) hle2 hf
    have he3:=set_old (o:=.list []) he hf
    have hb3:=hle3 b _ hb
    cases o with
    | none=>
     refine fun g hg=>h g none _ (le_set hle3 hg) (fun x hx=>?_) set_self'
     cases hx.tells with
     | fore _ _ _ _ _ _ _ h0'=>exact h0 h0'
     | hind r' y p q hr' hw' hk' _ hlast' hd he=>
      cases same hr' hw' (fun q=>by rw [q] at hk';cases hk')
      exact h2 hk'
     | mid r' y y' p q p' q' hr' hw' h1' h2' _ hd he _ _=>
      cases same hr' hw' h1'
      rw [ho y p q hd] at he
      cases he
    | some y=>
     obtain ⟨p,q,hd,hen⟩:=ho
     refine ⟨_,rfl,_,rfl,_,rfl,_,rfl,slice_row hb3 (x:=k+1) (y:=row.length) (clip_nat (k:=k+1) (by exact jk4 hk)) rfl fun c' hc'=>?_⟩
     rw [List.take_length]
     refine fit_spec (pl:=1) hC ht hr (two_place h1 h2) (by rw [List.length_drop];exact jl2 (jc2 (_ - (_+(1:Nat))) _) j1 (jK 10000) j0 j1 j0 (jK 10000) rfl hl (Nat.sub_le _ (_+(1:Nat)))) (IH _ (by rw [List.length_drop];exact jl1 (jc3 (_ - (_+(1:Nat))) _ _) (jA j0 (jA j2 (jK 1))) j1 (jA j0 (jK 1)) j1 rfl (Nat.le_of_eq (Nat.sub_add_cancel (jl1 (jc2 _ _) (jA j0 (jK 1)) j1 (jA j0 (jK 1)) j1 rfl hk)))) fun _=>List.mem_of_mem_drop) (set_old (hle3 a _ ha) hc') set_self' fun e' o' H4 hle4 ho' he'=>?_
     have hle5:=(le_set (o:=.list (strD (row.drop (k+1)))) hle3 hc').trans hle4
     have he5:=hle4 e _ (set_old he3 hc')
     refine ⟨_,iter_ref he',oL_comp (.two r y) o' he' (fun x K ho hK=>?_) fun g hg=>?_⟩
     ·rw [show (Tre.two r y x).d=.tup [.str between,.str row[k],y.d,x.d] by show D.tup [.str between,.str r.word,y.d,x.d]=_;rw [hw]] at hK
      exact ⟨_,rfl,_,rfl,row_at (ns:=ns) (Q:=fun d H=>_) (hle5 b _ hb) hk ⟨_,rfl,item_at (ns:=ns) (i:=0) (Q:=fun d H=>_) he5 (by decide) rfl ⟨_,rfl,hK⟩⟩⟩
     ·refine h g (o'.map (.two r y)) _ (le_set hle5 hg) ?_ set_self'
      cases o' with
      | some x=>
       obtain ⟨p',q',hd',hen'⟩:=ho'
       have hroot:=RootAt.two hr h1 h2 hen hen' hd hd'
       rw [hcut,htl] at hroot
       exact hroot
      | none=>
       intro x hx
       cases hx.tells with
       | fore _ _ _ _ _ _ _ h0'=>exact h0 h0'
       | hind r' y p q hr' hw' hk' _ _ hd he=>
        cases same hr' hw' (fun q=>by rw [q] at hk';cases hk')
        exact h2 hk'
       | mid r' y y' p q p' q' hr' hw' h1' h2' _ _ _ hd he=>
        cases same hr' hw' h1'
        rw [ho' y' p' q' hd] at he
        cases he
noncomputable def four:List Wd:=[[40],[41],[59],[116,101,108,108]]
noncomputable def RowOk (row:List Wd):Prop:=∀w∈row,IsW w\/w∈four
noncomputable def Upto (t:List Row) (row:List Wd) (k:Nat):Option Tre->Prop
 | some x=>∃j,j < k/\RootAt t x j row
 | none=>∀x j,j < k->¬RootAt t x j row
theorem Upto.more {k:Nat} (ht:Tb ws t) {o o':Option Tre} (h:Upto t row k o) (h':RAns t row k o'):∃o'',Upto t row (k+1) o''/\oL o++oL o'=oL o'':=by
 cases o with
 | none=>
  refine ⟨o',?_,rfl⟩
  cases o' with
  | none=>intro x j hj hx;rcases Nat.lt_or_ge j k with q | q;exact h x j q hx;exact h' x ((by exact jk97 hj q:j=k) ▸ hx)
  | some x=>exact ⟨k,by exact jk16,h'⟩
 | some x=>
  obtain ⟨j,hj,hx⟩:=h
  cases o' with
  | none=>exact ⟨some x,⟨j,by exact jk98 hj,hx⟩,rfl⟩
  | some y=>
   have h':RootAt t y k row:=h'
   obtain ⟨_,_,hd⟩:=hx.der
   obtain ⟨_,_,hd'⟩:=h'.der
   obtain ⟨rfl,_⟩:=hd.uniq ht hd'
   have:=hx.place ht h'
   omega
theorem Upto.skip {k:Nat} {o:Option Tre} (h:Upto t row k o) (h':∀x,¬RootAt t x k row):Upto t row (k+1) o:=by
 cases o with
 | none=>intro x j hj hx;rcases Nat.lt_or_ge j k with q | q;exact h x j q hx;exact h' x ((by exact jk97 hj q:j=k) ▸ hx)
 | some x=>obtain ⟨j,hj,hx⟩:=h;exact ⟨j,by exact jk98 hj,hx⟩
theorem oL_len (o:Option Tre):(oL o).length<=1:=by cases o <;> simp [oL]
theorem dp_take {k:Nat} (hk:k < row.length):dp (row.take (k+1))=dp (row.take k)+dw row[k]:=by
 rw [<-List.take_append_getElem hk,dp_append];show _+(dw _+0)=_;exact Int.le_antisymm (ul0 (uc2 _ _) (uA u0 (uA u1 (uK 0))) (uA u0 u1) rfl) (ul0 (uc2 _ _) (uA u0 u1) (uA u0 (uA u1 (uK 0))) rfl)
end
theorem nin_new {k:List Nat} {l:List Wd} {c:Addr}:vCmp .notin (.str k) (.ref c) (H.set c (.list (strD l)))=some (!l.contains k):=by rw [cmp_nin_ref set_self',mem_strs];rfl
theorem n59:59∉k_SIGNS:=by decide
theorem four_out {w:Wd} (h:IsW w):four.contains w=false:=by
 cases q:four.contains w with
 | false=>rfl
 | true=>
  have q:w∈four:=by simpa using q
  unfold four at q
  simp only [List.mem_cons,List.not_mem_nil,or_false] at q
  rcases q with q | q | q | q
  ·exact absurd q (sign_out h n40)
  ·exact absurd q (sign_out h n41)
  ·exact absurd q (sign_out h n59)
  ·exact absurd q h.ne
section
variable {t:List Row} {ws:List (List Nat)} {a b:Addr} {row:List Wd}
theorem clip_last {n d k:Nat} (h:n=k+1):clipAt n d (.int (-1))=some k:=by
 show some (if (0:Int)<=-1 then _ else ((-1:Int)+(n:Int)).toNat)=_
 rw [if_neg (by decide)];congr 1;omega
theorem mid_of (m:List Wd):((([40]:Wd)::(m++[[41]])).take (m.length+1)).drop 1=m:=by simp
theorem trees_6 {c':CallT} {w:Wd} {v:Bool} {x3 x4 x5:Option D} {Y:Nat->Loc->Hp->Prop} (hb:H b=some (.list [.str w])) (h:∀e H',H.Le H'->H' e=some (.list (oL (if (!v&&!four.contains w)=true then some (.name w) else none)))->Q (.ref e) H') :
  vSs ns c' b_l_trees_6 [some (.ref a),some (.ref b),some (.bool v),x3,x4,x5] H (retQ Q) Y:=by
 refine ⟨_,rfl,_,iter_ref hb,iter_ref hb,_,rfl,_,rfl,_,rfl,?_⟩
 cases v with
 | true=>exact ⟨false,rfl,iter_ref hb,fun g hg=>h g _ (.set _ hg) set_self'⟩
 | false=>
  refine ⟨_,rfl,fun c hc=>⟨_,nin_new (l:=four),_,rfl,?_⟩⟩
  have hb1:=set_old (o:=.list (strD four)) hb hc
  cases hf:four.contains w with
  | true=>rw [hf] at h;exact ⟨iter_ref hb1,fun g hg=>h g _ (le_set (.set _ hc) hg) set_self'⟩
  | false=>rw [hf] at h;exact ⟨_,rfl,iter_ref hb1,fun g hg=>h g _ (le_set (.set _ hc) hg) set_self'⟩
theorem trees_loop (hC:CT ns defs C) {Y:Nat->Loc->Hp->Prop} {x2:Option D} (ht:Tb ws t) (hl:row.length<=10000) (IH:∀row':List Wd,row'.length < row.length->(∀w∈row',w∈row)->TreesAt C t a (n+2) row') (ha:H a=some (.list (t.map rowD))) (hb:H b=some (.list (strD row)))
  (h:∀e o H',H.Le H'->Upto t row row.length o->H' e=some (.list (oL o))->Q (.ref e) H'):∀(m k:Nat) (e:Addr) (o:Option Tre) (x5:Option D) (H1:Hp),k+m=row.length->H.Le H1->Upto t row k o->H1 e=some (.list (oL o)) ->
  forL (.rng 0 row.length) ((List.range row.length).map fun k:Nat=>D.int k) (bodyQ 5 (vSs ns (C (n+4)) b_l_trees_2) Y) (seqQ (vSs ns (C (n+4)) b_l_trees_0) (retQ Q) Y)
   ((List.range' k m).map fun k:Nat=>D.int k) [some (.ref a),some (.ref b),x2,some (.ref e),some (.int (dp (row.take k))),x5] H1
 | 0,k,e,o,x5,H1,hk,hle,ho,he=>⟨iter_range (by exact jk11 hl),_,rfl,h e o H1 hle ((by exact Nat.le_antisymm (jl1 (jc2 _ _) (jA j0 (jK 0)) j1 j0 j1 rfl (Nat.le_of_eq hk)) (jl1 (jc2 _ _) j0 (jA j1 (jK 0)) j0 j1 rfl (Nat.le_of_eq (Eq.symm hk))):k=row.length) ▸ ho) he⟩
 | m+1,k,e,o,x5,H1,hk,hle,ho,he=>by
  have hlt:k < row.length:=by exact jk33 hk
  have hb1:=hle b _ hb
  have hit:∀{Q:D->Hp->Prop},Q (.str row[k]) H1->vItem (.ref b) (.int (k:Int)) ns H1 Q:=fun q=>row_at (k:=k) hb1 hlt q
  refine ⟨iter_range (by exact jk11 hl),_,rfl,_,rfl,_,rfl,hit (Q:=fun d H=>_) ⟨row[k]==[40],rfl,_,rfl,_,rfl,hit (Q:=fun d H=>_) ⟨row[k]==[41],rfl,?_⟩⟩⟩
  have ed:dp (row.take k)+(if (row[k]==[40])=true then 1 else 0:Int) - (if (row[k]==[41])=true then 1 else 0:Int)=dp (row.take (k+1)):=by rw [dp_take hlt];unfold dw;exact jk95
  show vSs ns (C (n+4)) b_l_trees_1 [some (.ref a),some (.ref b),x2,some (.ref e),some (.int (dp (row.take k)+(if (row[k]==[40])=true then 1 else 0:Int) - (if (row[k]==[41])=true then 1 else 0:Int))),some (.int k)] H1 _ Y
  rw [ed]
  refine ⟨_,rfl,dp (row.take (k+1))==0,rfl,_,rfl,?_⟩
  by_cases hz:dp (row.take (k+1))=0
  ·rw [show (dp (row.take (k+1))==0)=true from beq_iff_eq.mpr hz]
   refine ⟨_,rfl,_,rfl,hit (Q:=fun d H=>_) ⟨!(row[k]==[41]),rfl,_,rfl,?_⟩⟩
   cases h41:row[k]==[41] with
   | true=>exact trees_loop hC ht hl IH ha hb h m (k+1) e o _ H1 (by exact jk10 hk) hle (ho.skip fun x hx=>(hx.deep ht).2.2 (by rw [List.getElem?_eq_getElem hlt,eq_of_beq h41])) he
   | false=>
    refine ⟨_,rfl,_,rfl,_,rfl,_,rfl,by_root_spec hC ht hlt hl IH (hle a _ ha) hb1 fun e' o' H2 hle2 ho' he'=>?_⟩
    obtain ⟨o2,ho2,e2⟩:=ho.more ht ho'
    refine ⟨oL o,oL o',hle2 e _ he,he',by have:=oL_len o;have:=oL_len o';show _<=1000000;exact jl2 (jc2 _ _) j0 (jK 1) j1 (jK 1) (jA j0 j1) (jK 1000000) rfl ‹_› this,fun c hc=>?_⟩
    rw [e2]
    exact trees_loop hC ht hl IH ha hb h m (k+1) c o2 _ _ (by exact jk10 hk) (le_set (hle.trans hle2) hc) ho2 set_self'
  ·rw [beq_eq_false_iff_ne.mpr hz]
   exact ⟨false,rfl,trees_loop hC ht hl IH ha hb h m (k+1) e o _ H1 (by exact jk10 hk) hle (ho.skip fun x hx=>hz (hx.deep ht).2.1) he⟩
theorem trees_step (hC:CT ns defs C) (ht:Tb ws t) (hok:RowOk row) (hl:row.length<=10000) (IH:∀(row':List Wd) (N:Nat),row'.length < row.length->RowOk row'->3*row'.length+5<=N->TreesAt C t a N row') {N:Nat} (hN:3*row.length+5<=N):TreesAt C t a N row:=by
 intro H Q X b ha hb h
 obtain ⟨n,rfl⟩:∃n,N=n+5:=⟨N - 5,by exact Nat.le_antisymm (jl1 (jc2 _ (_ - (5:Nat))) j0 (jA j1 (jK 5)) j0 (jA j1 (jK 5)) rfl (Nat.le_add_of_sub_le (Nat.le_refl (_ - (5:Nat))))) (jl1 (jc2 (_ - (5:Nat)) _) (jA j0 (jK 5)) j1 (jA j0 (jK 5)) j1 rfl (Nat.le_of_eq (Nat.sub_add_cancel (jl1 (jc2 _ _) (jA (jM 3 j1) (jK 5)) j0 (jK 5) j0 rfl hN))))⟩
 refine hC.intro (df:=d_l_trees) rfl rfl ?_
 refine ⟨_,rfl,held_spec hC hb hl fun H1 hle=>⟨_,rfl,?_⟩⟩
 have ha1:=hle a _ ha
 have hb1:=hle b _ hb
 cases hh:heldF row with
 | true=>
  obtain ⟨mid,rfl⟩:=held_form hh
  have hlen:(([40]:Wd)::(mid++[[41]])).length=mid.length+2:=by simp
  refine ⟨_,rfl,_,rfl,_,rfl,slice_row hb1 (x:=1) (y:=mid.length+1) (clip_nat (k:=1) (by omega)) (clip_last (by omega)) fun c hc=>?_⟩
  rw [mid_of]
  refine IH mid (n+4) (by omega) (fun w hw=>hok w (by simp [hw])) (by omega) (set_old ha1 hc) set_self' fun e o H2 hle2 ho he=>h e o H2 (hle.trans ((Hp.Le.set _ hc).trans hle2)) ?_ he
  cases o with
  | some x=>obtain ⟨p,q,hd⟩:=ho;exact ⟨_,_,.par hd⟩
  | none=>
   intro x p q hd
   rcases hd.held ht with ⟨_,_,p',q',m',hd',e⟩ | ⟨e,_⟩
   ·have:=List.append_cancel_right (List.cons.inj e).2
    subst this
    exact ho x p' q' hd'
   ·rw [e] at hh;cases hh
 | false=>
  refine ⟨_,rfl,_,hb1,((strD row).length:Int)==1,rfl,_,rfl,?_⟩
  rw [len_strD]
  by_cases h1:row.length=1
  ·rw [show ((row.length:Int)==1)=true from beq_iff_eq.mpr (by exact Int.le_antisymm (ul1 (uc1 ((_:Nat):Int)) u0 (uK 1) u0 (uK 1) rfl (Int.ofNat_le.mpr (Nat.le_of_eq h1))) (ul1 (uc1 ((_:Nat):Int)) (uK 1) u0 (uK 1) u0 rfl (Int.ofNat_le.mpr (Nat.le_of_eq (Eq.symm h1)))))]
   obtain ⟨w,rfl⟩:=List.length_eq_one_iff.mp h1
   have no:¬IsNm t w->∀x p q,¬Der t x p q [w]:=fun hn x p q hd=>by
    rcases hd.held ht with ⟨e,_⟩ | ⟨_,_,⟨w',_,e,hw⟩ | ⟨e,_⟩⟩
    ·rw [e] at hh;cases hh
    ·cases e;exact hn hw
    ·exact absurd e (Nat.lt_irrefl 1)
   refine ⟨_,rfl,_,rfl,row_at (ns:=ns) (k:=0) (Q:=fun d H=>_) hb1 (Nat.zero_lt_one) (l_role_spec hC ha1 ?_)⟩
   show OB (vCmp .isnot (roleD t w true) .none H1) H1 _
   cases hA:roleF t w true with
   | some r=>
    rw [roleD_some hA]
    refine ⟨true,rfl,_,rfl,trees_6 (Y:=fun k _ H'=>X k H') hb1 fun e H2 hle2 he=>h e none H2 (hle.trans hle2) (no fun q=>by rw [q.r1] at hA;cases hA) he⟩
   | none=>
    rw [roleD_none hA]
    refine ⟨false,rfl,_,rfl,_,rfl,_,rfl,row_at (ns:=ns) (k:=0) (Q:=fun d H=>_) hb1 (Nat.zero_lt_one) (l_role_spec hC ha1 ?_)⟩
    show OB (vCmp .isnot (roleD t w false) .none H1) H1 _
    cases hB:roleF t w false with
    | some r=>
     rw [roleD_some hB]
     refine ⟨true,rfl,trees_6 (Y:=fun k _ H'=>X k H') hb1 fun e H2 hle2 he=>h e none H2 (hle.trans hle2) (no fun q=>by rw [q.r2] at hB;cases hB) he⟩
    | none=>
     rw [roleD_none hB]
     refine ⟨false,rfl,trees_6 (Y:=fun k _ H'=>X k H') hb1 fun e H2 hle2 he=>?_⟩
     cases hf:four.contains w with
     | true=>rw [hf] at he;exact h e none H2 (hle.trans hle2) (no fun q=>by rw [four_out q.iw] at hf;cases hf) he
     | false=>
      rw [hf] at he
      refine h e (some (.name w)) H2 (hle.trans hle2) ⟨_,_,.name ⟨?_,hA,hB⟩⟩ he
      rcases hok w List.mem_cons_self with q | q
      ·exact q
      ·rw [List.contains_iff_mem.mpr q] at hf;cases hf
  ·rw [show ((row.length:Int)==1)=false from beq_eq_false_iff_ne.mpr (by omega)]
   refine fun f hf=>⟨_,rfl,_,set_old hb1 hf,?_⟩
   rw [len_strD]
   refine ⟨_,iter_range (by exact jk11 hl),?_⟩
   have hz:=trees_loop hC (n:=n) (x2:=none) (Y:=fun k _ H'=>X k H') ht hl (fun row' h1 h2=>IH row' (n+2) h1 (fun w hw=>hok w (h2 w hw)) (by exact jl2 (jc3 _ _ _) (jA (jM 3 j2) (jK 5)) (jA j1 (jK 5)) (jM 3 (jA j0 (jK 1))) (jM 3 j2) (jA (jM 3 j0) (jK 5)) (jA j1 (jK 2)) rfl hN (jm _ 3 (jA j0 (jK 1)) j2 h1))) (set_old ha1 hf) (set_old hb1 hf) (Q:=Q) (fun e o H2 hle2 ho he=>h e o H2 (hle.trans ((Hp.Le.set (.list []) hf).trans hle2)) ?_ he) row.length 0 f none none _ (by exact jk34) (.refl _) (fun x j hj=>absurd hj (by exact Nat.not_lt_of_le (jl0 (jc1 _) (jK 0) j0 rfl))) set_self'
   ·rw [<-List.range_eq_range'] at hz
    exact hz
   ·cases o with
    | some x=>obtain ⟨j,_,hr⟩:=ho;exact hr.der
    | none=>
     intro x p q hd
     rcases hd.held ht with ⟨e,_⟩ | ⟨_,_,⟨w',_,e,hw⟩ | ⟨_,k,hr⟩⟩
     ·rw [e] at hh;cases hh
     ·exact h1 (by rw [e];rfl)
     ·exact ho x k (hr.deep ht).1 hr
theorem trees_spec (hC:CT ns defs C) (ht:Tb ws t):∀(m:Nat) (row:List Wd) (N:Nat),RowOk row->row.length<=m->m<=10000->3*row.length+5<=N->TreesAt C t a N row
 | 0,row,N,hok,hm,_,hN=>trees_step hC ht hok (by exact jl1 (jc1 _) j0 (jK 0) j0 (jK 10000) rfl hm) (fun _ _ q=>absurd q (by exact Nat.not_lt_of_le (jl1 (jc2 _ _) j0 (jK 0) j0 j1 rfl hm))) hN
 | m+1,row,N,hok,hm,hm',hN=>trees_step hC ht hok (by exact jl2 (jc2 _ _) (jA j1 (jK 1)) (jK 10000) j0 (jA j1 (jK 1)) j0 (jK 10000) rfl hm' hm) (fun row' N' q hok' hN'=>trees_spec hC ht m row' N' hok' (by exact jl2 (jc3 _ _ _) (jA j0 (jK 1)) j2 j2 (jA j1 (jK 1)) j0 j1 rfl q hm) (by exact jk85 hm') hN') hN
end
noncomputable def fig (c:Nat):Bool:=k_FIGURES.contains c
noncomputable def powOf (w:Wd):Option Int:=if (decide (1<=w.length)&&decide (w.length<=2)&&!(w.head?==some 48)&&w.all fig)=true then some ((digitsVal w:Nat):Int) else none
theorem fig_digit {c:Nat} (h:fig c=true):decide (48<=c/\c<=57)=true:=by
 have:∀c∈k_FIGURES,48<=c/\c<=57:=by decide
 exact decide_eq_true (this c (List.contains_iff_mem.mp h))
theorem fig_loop {c':CallT} {w:Wd} {K:Fl->Loc->Hp->Prop} {Y:Nat->Loc->Hp->Prop} (hX:w.all fig=false->∀l,Y 2 l H) (hK:w.all fig=true->∀x1,K .next [some (.str w),x1] H):∀(l:List Nat) (x1:Option D),(l.all fig=false->w.all fig=false)->(l.all fig=true->w.all fig=true) ->
  forL (.str w) (w.map fun c=>D.str [c]) (bodyQ 1 (vSs ns c' b_strength_of_1) Y) K (l.map fun c=>D.str [c]) [some (.str w),x1] H
 | [],x1,_,h=>⟨rfl,hK (h rfl) x1⟩
 | c::l,x1,h0,h1=>by
  refine ⟨rfl,_,rfl,!fig c,rfl,_,rfl,?_⟩
  rw [List.all_cons] at h0 h1
  cases hc:fig c with
  | false=>rw [hc] at h0;exact hX (h0 rfl) _
  | true=>rw [hc] at h0 h1;exact fig_loop hX hK l _ h0 h1
theorem strengthOf_spec (hC:CT ns defs C) {w:Wd} (h0:powOf w=none->X 2 H) (h1:∀i,powOf w=some i->Q (.int i) H):C (n+1) f_strength_of [.str w] H Q X:=by
 refine hC.intro (df:=d_strength_of) rfl rfl ?_
 have body:∀c l,w=c::l->w.length<=2->c≠48->vSs ns (C n) b_strength_of_2 [some (.str w),none] H (retQ Q) fun k _ H'=>X k H':=by
  intro c l e hl hc
  have hp:powOf w=if w.all fig=true then some ((digitsVal w:Nat):Int) else none:=by
   unfold powOf
   rw [e] at hl ⊢
   rw [decide_eq_true (show 1<=(c::l).length from Nat.succ_pos _),decide_eq_true hl,show (!((c::l).head?==some 48))=true by simpa using hc]
   rfl
  refine ⟨_,rfl,_,rfl,fig_loop (fun q _=>h0 (by rw [hp,q];rfl)) (fun q x1=>?_) w none id id⟩
  refine ⟨_,rfl,by rw [e];exact Nat.succ_pos _,Nat.le_trans hl (by decide),List.all_eq_true.mpr fun c hc=>fig_digit (List.all_eq_true.mp q c hc),h1 _ (by rw [hp,q];rfl)⟩
 match w,h0,body with
 | [],h0,_=>exact ⟨_,rfl,false,rfl,false,rfl,true,rfl,true,rfl,h0 rfl⟩
 | [c],h0,body=>
  refine ⟨_,rfl,true,rfl,true,rfl,true,rfl,false,rfl,_,rfl,0,c,rfl,rfl,[c]==[48],rfl,_,rfl,?_⟩
  cases hc:[c]==[48] with
  | true=>exact h0 (by rw [show c=48 by simpa using hc];rfl)
  | false=>exact body c [] rfl (Nat.le_of_ble_eq_true rfl) (by simpa using hc)
 | [c,e],h0,body=>
  refine ⟨_,rfl,true,rfl,true,rfl,true,rfl,false,rfl,_,rfl,0,c,rfl,rfl,[c]==[48],rfl,_,rfl,?_⟩
  cases hc:[c]==[48] with
  | true=>exact h0 (by rw [show c=48 by simpa using hc];rfl)
  | false=>exact body c [e] rfl (Nat.le_of_ble_eq_true rfl) (by simpa using hc)
 | c::e::f::l,h0,_=>
  have hn:¬(((c::e::f::l).length:Int)<=2):=by show ¬(((l.length+1+1+1:Nat):Int)<=2);exact Int.not_le.mpr (ul1 (uc1 ((_:Nat):Int)) (uK 0) u0 (uA (uK 2) (uK 1)) (uA (uA (uA u0 (uK 1)) (uK 1)) (uK 1)) rfl (Int.natCast_nonneg _))
  have hp:powOf (c::e::f::l)=none:=by
   unfold powOf
   rw [decide_eq_false (show ¬(c::e::f::l).length<=2 by show ¬l.length+1+1+1<=2;exact Nat.not_le_of_lt (jl0 (jc1 _) (jA (jK 2) (jK 1)) (jA (jA (jA j0 (jK 1)) (jK 1)) (jK 1)) rfl))]
   simp
  refine ⟨_,rfl,decide ((1:Int)<=((c::e::f::l).length:Nat)),rfl,?_⟩
  rw [decide_eq_true (show (1:Int)<=((c::e::f::l).length:Nat) by show (1:Int)<=((l.length+1+1+1:Nat):Int);exact ul1 (uc1 ((_:Nat):Int)) (uK 0) u0 (uK 1) (uA (uA (uA u0 (uK 1)) (uK 1)) (uK 1)) rfl (Int.natCast_nonneg _))]
  refine ⟨decide (((c::e::f::l).length:Int)<=2),rfl,?_⟩
  rw [decide_eq_false hn]
  exact ⟨false,rfl,true,rfl,true,rfl,h0 hp⟩
section
variable {t:List Row} {ws:List (List Nat)} {b r d l:Addr} {row:List Wd}
theorem four_of {row:List Wd} (h:row.length=4):∃g k p w,row=[g,k,p,w]:=by
 obtain ⟨g,r,rfl⟩:=List.exists_cons_of_length_eq_add_one h
 obtain ⟨k,r,rfl⟩:=List.exists_cons_of_length_eq_add_one (Nat.succ.inj h)
 obtain ⟨p,r,rfl⟩:=List.exists_cons_of_length_eq_add_one (Nat.succ.inj (Nat.succ.inj h))
 obtain ⟨w,r,rfl⟩:=List.exists_cons_of_length_eq_add_one (Nat.succ.inj (Nat.succ.inj (Nat.succ.inj h)))
 obtain rfl:=List.length_eq_zero_iff.mp (Nat.succ.inj (Nat.succ.inj (Nat.succ.inj (Nat.succ.inj h))))
 exact ⟨g,k,p,w,rfl⟩
theorem telling_of_spec (hC:CT ns defs C) (hb:H b=some (.list (strD row))) (h0:(∀k p w,row.drop 1=[k,p,w]->powOf p=none)->X 2 H) (h1:∀k p w i,row.drop 1=[k,p,w]->powOf p=some i->Q (.tup [.str tell,.str k,.int i,.str w]) H):C (n+2) f_telling_of [.ref b] H Q X:=by
 refine hC.intro (df:=d_telling_of) rfl rfl ?_
 refine ⟨_,rfl,_,hb,!(((strD row).length:Int)==4),rfl,_,rfl,?_⟩
 rw [len_strD]
 by_cases h4:row.length=4
 ·rw [show ((row.length:Int)==4)=true from beq_iff_eq.mpr (by exact Int.le_antisymm (ul1 (uc1 ((_:Nat):Int)) u0 (uK 4) u0 (uK 4) rfl (Int.ofNat_le.mpr (Nat.le_of_eq h4))) (ul1 (uc1 ((_:Nat):Int)) (uK 4) u0 (uK 4) u0 rfl (Int.ofNat_le.mpr (Nat.le_of_eq (Eq.symm h4)))))]
  obtain ⟨g,k,p,w,rfl⟩:=four_of h4
  ·refine ⟨_,rfl,item_at (ns:=ns) (i:=1) (Q:=fun d H=>_) hb (by decide) rfl ⟨_,rfl,item_at (ns:=ns) (i:=2) (Q:=fun d H=>_) hb (by decide) rfl (strengthOf_spec hC (fun q=>h0 fun k' p' w' e=>?_) fun i q=>?_)⟩⟩
   ·cases e;exact q
   ·exact ⟨_,rfl,item_at (ns:=ns) (i:=3) (Q:=fun d H=>_) hb (by decide) rfl (h1 k p w i rfl q)⟩
 ·rw [show ((row.length:Int)==4)=false from beq_eq_false_iff_ne.mpr (by omega)]
  exact h0 fun k p w e=>absurd (by have:=congrArg List.length e;rw [List.length_drop] at this;simp at this;exact Nat.le_antisymm (jl1 (jc1 _) j0 (jK 4) j0 (jK 4) rfl (Nat.le_of_eq this)) (jl1 (jc1 _) (jK 4) j0 (jK 4) j0 rfl (Nat.le_of_eq (Eq.symm this)))) h4
theorem take_tree (hC:CT ns defs C) {N:Nat} (ht:Tb ws t) (hr:H r=some (.robj d (some l))) (hl:H l=some (.list (t.map rowD))) (hb:H b=some (.list (strD row))) (h0:row.head?≠some tell) (h99:row.length<=99) (hN:2*row.length+7<=N)
  (h1:∀x p q,Der t x p q row->Q x.d H) (h2:(∀x p q,¬Der t x p q row)->X 4 H):C N f_m_take [.ref r,.ref b] H Q X:=by
 obtain ⟨n,rfl⟩:∃n,N=n+1:=⟨N - 1,by exact Nat.le_antisymm (jl1 (jc2 _ (_ - (1:Nat))) j0 (jA j1 (jK 1)) j0 (jA j1 (jK 1)) rfl (Nat.le_add_of_sub_le (Nat.le_refl (_ - (1:Nat))))) (jl1 (jc2 (_ - (1:Nat)) _) (jA j0 (jK 1)) j1 (jA j0 (jK 1)) j1 rfl (Nat.le_of_eq (Nat.sub_add_cancel (jl1 (jc2 _ _) (jA (jM 2 j1) (jK 7)) j0 (jK 1) j0 rfl hN))))⟩
 refine hC.intro (df:=d_m_take) rfl rfl ?_
 have fin:vSs ns (C n) b_m_take_0 [some (.ref r),some (.ref b),none] H (retQ Q) fun k _ H'=>X k H':=⟨_,rfl,d,l,hr,_,rfl,tree_of_spec hC ht hl hb h99 (by exact jl1 (jc2 _ _) (jA (jM 2 j0) (jK 7)) (jA j1 (jK 1)) (jA (jM 2 j0) (jK 6)) j1 rfl hN) h1 h2⟩
 refine ⟨_,rfl,_,hb,decide (((strD row).length:Int) > 0),rfl,_,rfl,?_⟩
 cases row with
 | nil=>exact ⟨false,rfl,fin⟩
 | cons w ws'=>
  rw [decide_eq_true (show ((strD (w::ws')).length:Int) > 0 by rw [len_strD];show ((ws'.length+1:Nat):Int) > 0;exact jk35)]
  refine ⟨_,rfl,row_at (ns:=ns) (k:=0) (Q:=fun d H=>_) hb (Nat.succ_pos _) ⟨w==tell,rfl,_,rfl,?_⟩⟩
  rw [show (w==tell)=false from beq_eq_false_iff_ne.mpr fun q=>h0 (by rw [q];rfl)]
  exact fin
theorem take_long (hC:CT ns defs C) (hr:H r=some (.robj d (some l))) (hb:H b=some (.list (strD row))) (h0:row.head?≠some tell) (h99:99 < row.length) (h:X 6 H):C (n+2) f_m_take [.ref r,.ref b] H Q X:=by
 refine hC.intro (df:=d_m_take) rfl rfl ?_
 refine ⟨_,rfl,_,hb,decide (((strD row).length:Int) > 0),rfl,_,rfl,?_⟩
 cases row with
 | nil=>exact absurd h99 (by decide)
 | cons w ws'=>
  rw [decide_eq_true (show ((strD (w::ws')).length:Int) > 0 by rw [len_strD];show ((ws'.length+1:Nat):Int) > 0;exact jk35)]
  refine ⟨_,rfl,row_at (ns:=ns) (k:=0) (Q:=fun d H=>_) hb (Nat.succ_pos _) ⟨w==tell,rfl,_,rfl,?_⟩⟩
  rw [show (w==tell)=false from beq_eq_false_iff_ne.mpr fun q=>h0 (by rw [q];rfl)]
  exact ⟨_,rfl,d,l,hr,_,rfl,tree_of_long hC hb h99 h⟩
theorem take_tell (hC:CT ns defs C) {row:List Wd} (hb:H b=some (.list (strD (tell::row)))) (h0:(∀k p w,row=[k,p,w]->powOf p=none)->X 2 H)
  (h1:∀k p w i,row=[k,p,w]->powOf p=some i->vSs ns (C (n+3)) b_m_take_2 [some (.ref r),some (.ref b),some (.tup [.str tell,.str k,.int i,.str w])] H (retQ Q) fun k _ H'=>X k H'):C (n+4) f_m_take [.ref r,.ref b] H Q X:=by
 refine hC.intro (df:=d_m_take) rfl rfl ?_
 refine ⟨_,rfl,_,hb,decide (((strD (tell::row)).length:Int) > 0),rfl,_,rfl,?_⟩
 rw [decide_eq_true (show ((strD (tell::row)).length:Int) > 0 by rw [len_strD];show ((row.length+1:Nat):Int) > 0;exact jk35)]
 refine ⟨_,rfl,row_at (ns:=ns) (k:=0) (Q:=fun d H=>_) hb (Nat.succ_pos _) ⟨true,rfl,true,rfl,?_⟩⟩
 exact ⟨_,rfl,telling_of_spec hC hb h0 h1⟩
theorem take_bad (hC:CT ns defs C) {row:List Wd} (hr:H r=some (.robj d (some l))) (hb:H b=some (.list (strD (tell::row)))) (hbad:∀k p w i,row=[k,p,w]->powOf p=some i->NT H (.tup [.str tell,.str k,.int i,.str w])) (h:X 2 H):C (n+4) f_m_take [.ref r,.ref b] H Q X:=
 take_tell hC hb (fun _=>h) fun k p w i e q=>⟨_,rfl,d,l,hr,_,rfl,added_bad hC (hbad k p w i e q) h⟩
theorem take_ok (hC:CT ns defs C) {x:Row} {p:Wd} (hx:Tel ws x) (hp:powOf p=some x.pow) (hr:H r=some (.robj d (some l))) (hl:H l=some (.list (t.map rowD))) (htl:t.length<=100000) (hb:H b=some (.list (strD [tell,x.kind,p,x.word])))
  (h3:clashF t x=true->X 3 H) (hn:clashF t x=false->∀l' H',H' r=some (.robj d (some l'))->H' l'=some (.list ((t++[x]).map rowD))->H l'=none->(∀c o,c≠r->H c=some o->H' c=some o)->Q (rowD x) H'):C (n+4) f_m_take [.ref r,.ref b] H Q X:=by
 refine take_tell hC hb (fun q=>?_) fun k p' w i e q=>?_
 ·have:=q _ _ _ rfl
  rw [hp] at this;cases this
 ·cases e
  rw [hp] at q;cases q
  refine ⟨_,rfl,d,l,hr,_,rfl,added_spec (r:=x) hC hx hl htl h3 fun hc c H' hle hcn hc'=>⟨_,rfl,d,_,hle r _ hr,?_⟩⟩
  have hrc:c≠r:=fun q=>by rw [q,hr] at hcn;cases hcn
  exact ⟨_,rfl,hn hc c _ set_self' (by rw [set_ne hrc];exact hc') hcn fun a o ha e=>by rw [set_ne ha];exact hle a o e⟩
theorem table_spec (hC:CT ns defs C) (hr:H r=some (.robj d (some l))) (hl:H l=some (.list (t.map rowD))) (h:∀c,H c=none->Q (.ref c) (H.set c (.list (t.map rowD)))):C (n+1) f_m_table [.ref r] H Q X:=by
 refine hC.intro (df:=d_m_table) rfl rfl ?_
 exact ⟨_,rfl,d,l,hr,_,hl,h⟩
end
noncomputable def seps:List Nat:=[32,10,40,41,59]
noncomputable def fl (w:Wd):List Wd:=if w=[] then [] else [w]
noncomputable def flush (w:Wd) (x:Nat):List Wd:=fl w++(if x∈k_ALONE then [[x]] else [])
noncomputable def cutS:List Nat->List Wd->Wd->Option (List Wd×Wd)
 | [],us,w=>some (us,w)
 | x::r,us,w=>if k_SIGNS.contains x=true then cutS r us (w++[x]) else if seps.contains x=true then cutS r (us++flush w x) [] else none
theorem fl_ne {w:Wd} (h:w≠[]):fl w=[w]:=if_neg h
theorem flush_len (w:Wd) (x:Nat):(flush w x).length<=2:=by unfold flush fl;rw [List.length_append];split <;> split <;> exact Nat.le_of_ble_eq_true rfl
theorem sep_sign:∀x∈seps,k_SIGNS.contains x=false:=by decide
theorem sep_ok:∀x∈seps,x∈k_ALONE\/x=32\/x=10:=by decide
theorem alone_sep:∀x∈k_ALONE,x∈seps:=by decide
section
variable {x:Nat} {r s v:List Nat} {us us':List Wd} {w w':Wd} {p:List Wd×Wd}
theorem cutS_sign (h:x∈k_SIGNS):cutS (x::r) us w=cutS r us (w++[x]):=if_pos (List.contains_iff_mem.mpr h)
theorem cutS_sep (h:x∈seps):cutS (x::r) us w=cutS r (us++flush w x) []:=(if_neg (by rw [sep_sign x h];exact Bool.false_ne_true)).trans (if_pos (List.contains_iff_mem.mpr h))
theorem cutS_cons (h:cutS (x::r) us w=some p):(x∈k_SIGNS/\cutS r us (w++[x])=some p)\/(x∈seps/\cutS r (us++flush w x) []=some p):=by
 by_cases a:x∈k_SIGNS
 ·exact .inl ⟨a,(cutS_sign a).symm.trans h⟩
 ·by_cases b:x∈seps
  ·exact .inr ⟨b,(cutS_sep b).symm.trans h⟩
  ·have:cutS (x::r) us w=none:=(if_neg (fun q=>a (List.contains_iff_mem.mp q))).trans (if_neg fun q=>b (List.contains_iff_mem.mp q))
   rw [this] at h;cases h
theorem cutS_app:∀{s:List Nat} {us:List Wd} {w:Wd},cutS s us w=some (us',w')->cutS (s++r) us w=cutS r us' w'
 | [],_,_,h=>by cases h;rfl
 | x::s,_,_,h=>by
  rcases cutS_cons h with ⟨a,h⟩ | ⟨a,h⟩
  ·exact (cutS_sign a).trans (cutS_app h)
  ·exact (cutS_sep a).trans (cutS_app h)
theorem cutS_pre:∀{s:List Nat} {us:List Wd} {w:Wd},cutS s us w=some p->∃m,p.1=us++m
 | [],_,_,h=>by cases h;exact ⟨[],(List.append_nil _).symm⟩
 | x::s,_,_,h=>by
  rcases cutS_cons h with ⟨_,h⟩ | ⟨_,h⟩
  ·exact cutS_pre h
  ·obtain ⟨m,e⟩:=cutS_pre h;exact ⟨flush _ x++m,by rw [e,List.append_assoc]⟩
theorem cutS_word:∀{v w:Wd},(∀c∈v,c∈k_SIGNS)->cutS v us w=some (us,w++v)
 | [],w,_=>by rw [List.append_nil];rfl
 | c::v,w,h=>by rw [cutS_sign (h c List.mem_cons_self),cutS_word fun c hc=>h c (List.mem_cons_of_mem _ hc),List.append_assoc];rfl
noncomputable def Gp (g:List Nat):Prop:=∀c∈g,c=32\/c=10
theorem gp_sep {c:Nat} (h:c=32\/c=10):c∈seps/\c∉k_ALONE:=by rcases h with rfl | rfl <;> decide
theorem flush_gp {c:Nat} (h:c=32\/c=10):flush w c=fl w:=by unfold flush;rw [if_neg (gp_sep h).2,List.append_nil]
theorem cutS_gaps:∀{g:List Nat},Gp g->cutS g us []=some (us,[])
 | [],_=>rfl
 | c::g,h=>by
  rw [cutS_sep (gp_sep (h c List.mem_cons_self)).1,flush_gp (h c List.mem_cons_self)]
  show cutS g (us++[]) []=_
  rw [List.append_nil];exact cutS_gaps fun c hc=>h c (List.mem_cons_of_mem _ hc)
theorem cutS_gap {g:List Nat} (h0:g≠[]) (hg:Gp g):cutS g us w=some (us++fl w,[]):=by
 cases g with
 | nil=>exact absurd rfl h0
 | cons c g=>
  rw [cutS_sep (gp_sep (hg c List.mem_cons_self)).1,flush_gp (hg c List.mem_cons_self)]
  exact cutS_gaps fun c hc=>hg c (List.mem_cons_of_mem _ hc)
theorem cutS_one (h:x∈k_ALONE):cutS [x] us w=some (us++fl w++[[x]],[]):=by
 rw [cutS_sep (alone_sep x h)];unfold flush;rw [if_pos h,<-List.append_assoc];rfl
end
noncomputable def Fits (l:List Wd):Prop:=∀v∈l,v.length<=8
theorem Fits.app {l m:List Wd} (x:Fits l) (y:Fits m):Fits (l++m):=fun v hv=>(List.mem_append.mp hv).elim (x v) (y v)
theorem flush_fits {w:Wd} {x:Nat} (h:w.length<=8):Fits (flush w x):=fun v hv=>by
 unfold flush fl at hv
 rcases List.mem_append.mp hv with hv | hv
 ·split at hv
  ·cases hv
  ·rw [List.mem_singleton.mp hv];exact h
 ·split at hv
  ·rw [List.mem_singleton.mp hv];exact Nat.le_of_ble_eq_true rfl
  ·cases hv
section
variable {c':CallT} {t w:Wd} {a:Addr} {x:Nat} {f:List Wd} {K:Fl->Loc->Hp->Prop} {Y:Nat->Loc->Hp->Prop}
theorem cut_sign (hx:x∈k_SIGNS) (hz:w.length+1<=SZ) (h:K .cont [some (.str t),some (.ref a),some (.str (w++[x])),some (.str [x])] H) :
  vSs ns c' b_cut_7 [some (.str t),some (.ref a),some (.str w),some (.str [x])] H K Y:=by
 refine ⟨_,rfl,k_SIGNS.contains x,rfl,_,rfl,?_⟩
 rw [List.contains_iff_mem.mpr hx]
 exact ⟨_,rfl,_,rfl,hz,h⟩
theorem cut_1 (hf:f.length < 1000000) (ha:H a=some (.list (strD f))) (h:∀H',But a H H'->H' a=some (.list (strD (f++if x∈k_ALONE then [[x]] else [])))->K .next [some (.str t),some (.ref a),some (.str []),some (.str [x])] H') :
  vSs ns c' b_cut_1 [some (.str t),some (.ref a),some (.str []),some (.str [x])] H K Y:=by
 refine ⟨_,rfl,k_ALONE.contains x,rfl,_,rfl,?_⟩
 by_cases hx:x∈k_ALONE
 ·rw [List.contains_iff_mem.mpr hx]
  refine ⟨_,rfl,⟨_,ha⟩,_,rfl,_,ha,by rw [len_strD];exact hf,h _ .set ?_⟩
  rw [set_self',if_pos hx];unfold strD;rw [List.map_append];rfl
 ·rw [show k_ALONE.contains x=false from Bool.eq_false_iff.mpr fun q=>hx (List.contains_iff_mem.mp q)]
  exact h H .refl (by rw [if_neg hx,List.append_nil];exact ha)
theorem cut_4 (hw:w.length<=8) (hf:f.length+2<=1000000) (ha:H a=some (.list (strD f))) (h:∀H',But a H H'->H' a=some (.list (strD (f++flush w x)))->K .next [some (.str t),some (.ref a),some (.str []),some (.str [x])] H') :
  vSs ns c' b_cut_4 [some (.str t),some (.ref a),some (.str w),some (.str [x])] H K Y:=by
 refine ⟨_,rfl,decide ((w.length:Int) > 8),rfl,_,rfl,?_⟩
 rw [decide_eq_false (show ¬(w.length:Int) > 8 by exact Int.not_lt.mpr (ul1 (uc1 ((_:Nat):Int)) u0 (uK 8) u0 (uK 8) rfl (Int.ofNat_le.mpr hw)))]
 refine ⟨_,rfl,!(w==[]),rfl,_,rfl,?_⟩
 unfold flush fl at h
 by_cases e:w=[]
 ·subst e
  refine cut_1 (by exact jk99 hf) ha fun H' b h'=>h H' b (by rw [if_pos rfl];exact h')
 ·rw [show (!(w==[]))=true by simpa using e]
  refine ⟨_,rfl,⟨_,ha⟩,_,rfl,_,ha,by rw [len_strD];show _ < 1000000;exact jk99 hf,?_⟩
  refine cut_1 (f:=f++[w]) (by rw [List.length_append];show _+1 < _;exact jl1 (jc1 _) (jA j0 (jK 2)) (jK 1000000) (jA (jA j0 (jK 1)) (jK 1)) (jK 1000000) rfl hf) (by rw [set_self'];unfold strD;rw [List.map_append];rfl) fun H' b h'=>h H' (But.set.trans b) ?_
  rw [if_neg e,<-List.append_assoc];exact h'
theorem cut_long (hw:8 < w.length) (h:Y 1 [some (.str t),some (.ref a),some (.str w),some (.str [x])] H):vSs ns c' b_cut_4 [some (.str t),some (.ref a),some (.str w),some (.str [x])] H K Y:=by
 refine ⟨_,rfl,decide ((w.length:Int) > 8),rfl,_,rfl,?_⟩
 rw [decide_eq_true (show (w.length:Int) > 8 by exact ul1 (uc1 ((_:Nat):Int)) (uA (uK 8) (uK 1)) u0 (uA (uK 8) (uK 1)) u0 rfl (Int.ofNat_le.mpr hw))]
 exact h
theorem cut_sep (hx:x∈seps) (main:vSs ns c' b_cut_4 [some (.str t),some (.ref a),some (.str w),some (.str [x])] H K Y) :
  vSs ns c' b_cut_7 [some (.str t),some (.ref a),some (.str w),some (.str [x])] H K Y:=by
 refine ⟨_,rfl,k_SIGNS.contains x,rfl,_,rfl,?_⟩
 rw [sep_sign x hx]
 refine ⟨_,rfl,!k_ALONE.contains x,rfl,_,rfl,?_⟩
 cases hc:k_ALONE.contains x with
 | true=>exact ⟨_,rfl,main⟩
 | false=>
  refine ⟨_,rfl,!(([x]:List Nat)==[32]),rfl,_,rfl,?_⟩
  cases h2:([x]:List Nat)==[32] with
  | true=>exact ⟨_,rfl,main⟩
  | false=>
   refine ⟨_,rfl,!(([x]:List Nat)==[10]),rfl,_,rfl,?_⟩
   rcases sep_ok x hx with q | rfl | rfl
   ·rw [List.contains_iff_mem.mpr q] at hc;cases hc
   ·cases h2
   ·exact main
theorem cut_loop {l:List Wd} {w':Wd}:∀(r:List Nat) {us:List Wd} {w:Wd} {v:Option D} {H:Hp},cutS r us w=some (l,w')->us.length+2*r.length<=900000->w.length+r.length<=900000->Fits us->H a=some (.list (strD us)) ->
  (Fits l->∀H',But a H H'->H' a=some (.list (strD l))->Q (.ref a) H')->(¬Fits l->∀loc H',But a H H'->Y 1 loc H') ->
  forL (.str (t++[32])) ((t++[32]).map fun c=>D.str [c]) (bodyQ 3 (vSs ns c' b_cut_7) Y) (seqQ (vSs ns c' b_cut_0) (retQ Q) Y) (r.map fun c=>D.str [c]) [some (.str t),some (.ref a),some (.str w),v] H
 | [],us,w,v,H,e,_,_,hu,ha,h,_=>by cases e;exact ⟨rfl,_,rfl,h hu H .refl ha⟩
 | x::r,us,w,v,H,e,h1,h2,hu,ha,h,hb=>by
  rw [List.length_cons] at h1 h2
  rcases cutS_cons e with ⟨hx,e⟩ | ⟨hx,e⟩
  ·exact ⟨rfl,cut_sign hx (by show _<=1000000;exact jl1 (jc2 _ _) (jA j0 (jA j1 (jK 1))) (jK 900000) (jA j0 (jK 1)) (jK 1000000) rfl h2) (cut_loop r e (by exact jl1 (jc2 _ _) (jA j0 (jM 2 (jA j1 (jK 1)))) (jK 900000) (jA j0 (jM 2 j1)) (jK 900000) rfl h1) (by rw [List.length_append];show _+1+_<=_;exact jl1 (jc2 _ _) (jA j0 (jA j1 (jK 1))) (jK 900000) (jA (jA j0 (jK 1)) j1) (jK 900000) rfl h2) hu ha h hb)⟩
  ·refine ⟨rfl,cut_sep hx ?_⟩
   by_cases hw:w.length<=8
   ·exact cut_4 hw (by exact jl1 (jc2 _ _) (jA j0 (jM 2 (jA j1 (jK 1)))) (jK 900000) (jA j0 (jK 2)) (jK 1000000) rfl h1) ha fun H1 b1 g1=>cut_loop r e (by rw [List.length_append];have:=flush_len w x;exact jl2 (jc3 _ _ _) (jA j0 (jM 2 (jA j2 (jK 1)))) (jK 900000) j1 (jK 2) (jA (jA j0 j1) (jM 2 j2)) (jK 900000) rfl h1 this) (by show 0+_<=_;exact jl1 (jc2 _ _) (jA j1 (jM 2 (jA j0 (jK 1)))) (jK 900000) (jA (jK 0) j0) (jK 900000) rfl h1) (hu.app (flush_fits hw)) g1 (fun q H' b=>h q H' (b1.trans b)) fun q loc H' b=>hb q loc H' (b1.trans b)
   ·refine cut_long (by exact jl1 (jc1 _) (jA (jK 8) (jK 1)) j0 (jA (jK 8) (jK 1)) j0 rfl (Nat.lt_of_not_le hw)) (hb (fun q=>hw (q w ?_)) _ H .refl)
    obtain ⟨m,e⟩:=cutS_pre e
    rw [show l=us++flush w x++m from e]
    refine List.mem_append_left _ (List.mem_append_right _ (List.mem_append_left _ ?_))
    rw [fl_ne fun q=>hw (by rw [q];exact Nat.zero_le _)]
    exact List.mem_singleton_self _
theorem cut_spec (hC:CT ns defs C) {l:List Wd} {w':Wd} (hx:cutS (t++[32]) [] []=some (l,w')) (ht:t.length<=400000) (h:Fits l->∀a H',H.Le H'->H a=none->H' a=some (.list (strD l))->Q (.ref a) H') (hb:¬Fits l->∀H',H.Le H'->X 1 H'):C (n+1) f_cut [.str t] H Q X:=by
 refine hC.intro (df:=d_cut) rfl rfl fun a ha=>?_
 have le:∀{H'},But a (H.set a (.list [])) H'->H.Le H':=fun b c o e=>b c o (ne_of e ha) (set_old e ha)
 refine ⟨_,rfl,show t.length+1<=1000000 by exact jl1 (jc1 _) j0 (jK 400000) (jA j0 (jK 1)) (jK 1000000) rfl ht,_,rfl,cut_loop _ hx (by rw [List.length_append];show 0+2*(_+1)<=_;exact jl1 (jc1 _) (jM 2 j0) (jM 2 (jK 400000)) (jA (jK 0) (jM 2 (jA j0 (jK 1)))) (jK 900000) rfl (jm _ 2 j0 (jK 400000) ht)) (by rw [List.length_append];show 0+(_+1)<=_;exact jl1 (jc1 _) j0 (jK 400000) (jA (jK 0) (jA j0 (jK 1))) (jK 900000) rfl ht) (fun _ q=>by cases q) set_self' (fun q H' b g=>h q a H' (le b) ha g) fun q _ H' b=>hb q H' (le b)⟩
end
inductive Wo:Wd->Prop
 | word {w:Wd} (h0:w≠[]) (hs:∀c∈w,c∈k_SIGNS):Wo w
 | op:Wo [40]
 | cl:Wo [41]
structure Cw (w:Wd):Prop where
 wo:Wo w
 len:w.length<=8
theorem IsW.cw {w:Wd} (h:IsW w):Cw w:=⟨.word (fun q=>by have:=h.pos;rw [q] at this;cases this) h.sg,h.le⟩
structure Tx (s:List Nat) (us:List Wd) (w:Wd) (N:Nat):Prop where
 cut:cutS s [] []=some (us,w)
 len:s.length<=N
noncomputable def endsT (rows:List (List Wd)):List Wd:=(rows.map (·++[[59]])).flatten
theorem ends_app (l m:List (List Wd)):endsT (l++m)=endsT l++endsT m:=by unfold endsT;rw [List.map_append,List.flatten_append]
section
variable {s v:List Nat} {us us':List Wd} {w w' u:Wd} {N M:Nat}
theorem Tx.add (x:Tx s us w N) (h:cutS v us w=some (us',w')) (hl:v.length<=M):Tx (s++v) us' w' (N+M):=⟨(cutS_app x.cut).trans h,by rw [List.length_append];exact Nat.add_le_add x.len hl⟩
theorem Wo.nb (h:Wo u) (h1:isB u=false):u≠[]/\∀c∈u,c∈k_SIGNS:=by
 induction h with
 | word h0 hs=>exact ⟨h0,hs⟩
 | op=>cases h1
 | cl=>cases h1
theorem sg_nb (hs:∀c∈u,c∈k_SIGNS):isB u=false:=by
 have no:∀{c},c∉k_SIGNS->(u==[c])=false:=fun hc=>beq_eq_false_iff_ne.mpr fun q=>hc (hs _ (by rw [q];exact List.mem_singleton_self _))
 unfold isB;rw [no n40,no n41];rfl
theorem Tx.word (x:Tx s us w N) (hu:Wo u) (hl:u.length<=16) (hh:w=[]\/isB u=true):∃us' w',Tx (s++u) us' w' (N+16)/\us'++fl w'=us++fl w++[u]/\(w'=[]\/(w'=u/\isB u=false)):=by
 induction hu with
 | @word u h0 hs=>
  have hn:=sg_nb hs
  rw [hn] at hh
  obtain rfl:w=[]:=hh.elim id fun q=>by cases q
  exact ⟨us,u,x.add (cutS_word hs) hl,by rw [fl_ne h0];show _=us++[]++_;rw [List.append_nil],.inr ⟨rfl,hn⟩⟩
 | op=>exact ⟨_,[],x.add (cutS_one (by decide)) hl,List.append_nil _,.inl rfl⟩
 | cl=>exact ⟨_,[],x.add (cutS_one (by decide)) hl,List.append_nil _,.inl rfl⟩
theorem brk_in (h:Wo u):vCmp .inn (.str u) (.str [40,41]) H=some (isB u):=by
 induction h with
 | op=>rfl
 | cl=>rfl
 | @word u h0 hs=>
  rw [sg_nb hs]
  have no:∀c∈u,([40,41]:List Nat).contains c=false:=fun c hc=>by
   have h1:c≠40:=fun q=>n40 (q ▸ hs c hc)
   have h2:c≠41:=fun q=>n41 (q ▸ hs c hc)
   simp [h1,h2]
  match u,h0,no with
  | [],h0,_=>exact absurd rfl h0
  | [c],_,no=>show some (([40,41]:List Nat).contains c)=_;rw [no c List.mem_cons_self]
  | c::d::m,_,no=>
   show (if (c::d::m).all ([40,41]:List Nat).contains=true then none else some false)=_
   rw [if_neg]
   rw [List.all_cons,no c List.mem_cons_self];exact Bool.false_ne_true
end
section
variable {c':CallT} {c:Addr} {row E:List Wd} {z:Int} {k N:Nat} {g:List Nat} {x0:Option D} {K:Fl->Loc->Hp->Prop} {Y:Nat->Loc->Hp->Prop}
theorem text_tight {X:Nat->Hp->Prop} {x2 x3 x6:Option D} (hc:H c=some (.list (strD row))) (hk:k < row.length) (hw:∀v∈row,Wo v) (h:∀v:Bool,(v=true->isB row[k]=true\/(0 < k/\∃u,row[k - 1]?=some u/\isB u=true))->Q (.bool v) H) :
  vE ns c' X (.and (.cmp .eq (.bin .mod (.bin .fdiv (.var 1) (.lit (.int 5))) (.lit (.int 2))) (.lit (.int 0))) (.or (.cmp .inn (.item (.var 4) (.var 5)) (.lit (.str [40,41]))) (.and (.cmp .gt (.var 5) (.lit (.int 0))) (.cmp .inn (.item (.var 4) (.bin .sub (.var 5) (.lit (.int 1)))) (.lit (.str [40,41]))))))
   [x0,some (.int z),x2,x3,some (.ref c),some (.int k),x6] H Q:=by
 refine ⟨_,rfl,by decide,by decide,by decide,z / 5 % 2==0,rfl,_,rfl,?_⟩
 cases z / 5 % 2==0 with
 | false=>exact h false fun q=>by cases q
 | true=>
  refine ⟨_,rfl,_,rfl,row_at (ns:=ns) (Q:=fun d H=>_) hc hk ⟨isB row[k],brk_in (hw _ (List.getElem_mem hk)),_,rfl,?_⟩⟩
  cases hb:isB row[k] with
  | true=>exact h true fun _=>.inl hb
  | false=>
   refine ⟨_,rfl,decide ((k:Int) > 0),rfl,_,rfl,?_⟩
   by_cases k0:0 < k
   ·have hk1:k - 1 < row.length:=by exact jl2 (jc3 (_ - (1:Nat)) _ _) (jA j2 (jK 1)) j1 j0 j2 (jA j0 (jK 1)) j1 rfl hk (Nat.sub_le _ (1:Nat))
    rw [decide_eq_true (show (k:Int) > 0 by exact jk36 k0)]
    refine ⟨_,rfl,_,rfl,?_⟩
    show vItem (.ref c) (.int ((k:Int) - 1)) ns H _
    rw [show (k:Int) - 1=((k - 1:Nat):Int) by exact Int.le_antisymm (ul1 (uc2 ((_:Nat):Int) (((_ - (1:Nat)):Nat):Int)) u0 (uA u1 (uK 1)) (uS u0 (uK 1)) u1 rfl (Int.ofNat_le.mpr (Nat.le_add_of_sub_le (Nat.le_refl (_ - (1:Nat)))))) (ul1 (uc2 (((_ - (1:Nat)):Nat):Int) ((_:Nat):Int)) (uA u0 (uK 1)) u1 u0 (uS u1 (uK 1)) rfl (Int.ofNat_le.mpr (Nat.le_of_eq (Nat.sub_add_cancel (Int.ofNat_le.mp (ul1 (uc1 ((_:Nat):Int)) (uA (uK 0) (uK 1)) u0 (uK 1) u0 rfl (Int.ofNat_le.mpr k0)))))))]
    exact row_at (Q:=fun d H=>_) hc hk1 ⟨isB row[k - 1],brk_in (hw _ (List.getElem_mem hk1)),h _ fun q=>.inr ⟨k0,_,List.getElem?_eq_getElem hk1,q⟩⟩
   ·rw [decide_eq_false (show ¬(k:Int) > 0 by exact jk100 k0)]
    exact h false fun q=>by cases q
theorem text_word {s:List Nat} {us:List Wd} {w:Wd} {x6:Option D} (hc:H c=some (.list (strD row))) (hk:k < row.length) (hw:∀v∈row,Wo v/\v.length<=16) (h0:g≠[]) (hg:Gp g) (h3:g.length<=3) (x:Tx s us w N) (hN:N<=900000) (he:us++fl w=E++row.take k) (hh:w=[]\/(0 < k/\row[k - 1]?=some w/\isB w=false))
  (h:∀s' us' w' x6,Tx s' us' w' (N+19)->us'++fl w'=E++row.take (k+1)->(w'=[]\/(0 < k+1/\row[k+1 - 1]?=some w'/\isB w'=false))->K .next [x0,some (.int z),some (.str g),some (.str s'),some (.ref c),some (.int k),x6] H) :
  vSs ns c' b_l_text_4 [x0,some (.int z),some (.str g),some (.str s),some (.ref c),some (.int k),x6] H K Y:=by
 refine text_tight hc hk (fun v hv=>(hw v hv).1) fun v hv=>?_
 have hget:row[k]?=some row[k]:=List.getElem?_eq_getElem hk
 have hwk:=hw _ (List.getElem_mem hk)
 have fin:∀{s1:List Nat} {us1:List Wd} {w1:Wd},Tx s1 us1 w1 (N+3)->us1++fl w1=E++row.take k->(w1=[]\/isB row[k]=true) ->
   vSs ns c' b_l_text_2 [x0,some (.int z),some (.str g),some (.str s1),some (.ref c),some (.int k),some (.bool v)] H K Y:=fun {s1 us1 w1} x1 e1 q1=>by
  obtain ⟨us',w',x',e',q'⟩:=x1.word hwk.1 hwk.2 q1
  have hl:=x'.len
  rw [List.length_append] at hl
  refine ⟨_,rfl,_,rfl,_,rfl,row_at (ns:=ns) (Q:=fun d H=>_) hc hk ⟨by show _<=1000000;exact jl2 (jc3 _ _ _) (jA j0 j1) (jA (jA j2 (jK 3)) (jK 16)) j2 (jK 900000) (jA j0 j1) (jK 1000000) rfl hl hN,h _ us' w' _ x' ?_ ?_⟩⟩
  ·rw [e',e1,List.append_assoc,<-List.take_append_getElem hk]
  ·rcases q' with q | ⟨q1,q2⟩
   ·exact .inl q
   ·rw [<-q1] at q2;exact .inr ⟨Nat.succ_pos _,by rw [Nat.add_sub_cancel,hget,q1],q2⟩
 have x3:Tx s us w (N+3):=⟨x.cut,Nat.le_trans x.len (Nat.le_add_right _ _)⟩
 refine ⟨_,rfl,decide ((k:Int) > 0),rfl,_,rfl,?_⟩
 by_cases k0:0 < k
 ·rw [decide_eq_true (show (k:Int) > 0 by exact jk36 k0)]
  refine ⟨_,rfl,_,rfl,_,rfl,?_⟩
  cases v with
  | false=>
   have xg:=x.add (cutS_gap h0 hg) h3
   have hl:=xg.len
   rw [List.length_append] at hl
   exact ⟨_,rfl,_,rfl,by show _<=1000000;exact jl2 (jc3 _ _ _) (jA j0 j1) (jA j2 (jK 3)) j2 (jK 900000) (jA j0 j1) (jK 1000000) rfl hl hN,fin xg (by rw [he];exact List.append_nil _) (.inl rfl)⟩
  | true=>
   refine fin x3 he ?_
   rcases hv rfl with q | ⟨_,u,q1,q2⟩
   ·exact .inr q
   ·rcases hh with q | ⟨_,q3,q4⟩
    ·exact .inl q
    ·rw [q1] at q3;cases q3;rw [q2] at q4;cases q4
 ·rw [decide_eq_false (show ¬(k:Int) > 0 by exact jk100 k0)]
  refine ⟨_,rfl,fin x3 he (hh.imp id fun q=>absurd q.1 k0)⟩
theorem text_inner {src:D} {all:List D} (hit:iterD H src=some all) (hc:H c=some (.list (strD row))) (hw:∀v∈row,Wo v/\v.length<=16) (h0:g≠[]) (hg:Gp g) (h3:g.length<=3) (hl:N+19*row.length<=900000) (h:∀s us w x5 x6,Tx s us w (N+19*row.length)->us++fl w=E++row->K .next [x0,some (.int z),some (.str g),some (.str s),some (.ref c),x5,x6] H):∀(m k:Nat) {s:List Nat} {us:List Wd} {w:Wd} {x5 x6:Option D},k+m=row.length->Tx s us w (N+19*k)->us++fl w=E++row.take k->(w=[]\/(0 < k/\row[k - 1]?=some w/\isB w=false)) ->
  forL src all (bodyQ 5 (vSs ns c' b_l_text_4) Y) K ((List.range' k m).map fun k:Nat=>D.int k) [x0,some (.int z),some (.str g),some (.str s),some (.ref c),x5,x6] H
 | 0,k,s,us,w,x5,x6,hk,x,he,_=>by
  obtain rfl:k=row.length:=hk
  exact ⟨hit,h s us w x5 x6 x (by rw [List.take_length] at he;exact he)⟩
 | m+1,k,s,us,w,x5,x6,hk,x,he,hh=>by
  have hlt:k < row.length:=by exact jk33 hk
  exact ⟨hit,text_word hc hlt hw h0 hg h3 x (by exact jl2 (jc4 _ _ _ _) (jA j0 (jM 19 j2)) (jK 900000) (jM 19 (jA j1 (jA j3 (jK 1)))) (jM 19 j2) (jA j0 (jM 19 j1)) (jK 900000) rfl hl (jm _ 19 (jA j1 (jA j3 (jK 1))) j2 (Nat.le_of_eq hk))) he hh fun s' us' w' x6 x' e' q'=>text_inner hit hc hw h0 hg h3 hl h m (k+1) (by exact jk10 hk) x' e' q'⟩
noncomputable def endsL:List (List Nat):=[[32,59,10],[59],[59,32],[10,59]]
theorem ends_cut:∀e∈endsL,e.length<=3/\∀us w,cutS e us w=some (us++fl w++[[59]],[]):=by
 have g:∀{s:List Nat} {us:List Wd} {w:Wd} (a b:List Nat),a≠[]->Gp a->Gp b->cutS (a++([59]++b)) us w=some (us++fl w++[[59]],[]):=fun {s us w} a b ha hga hgb=>by
  rw [cutS_app (cutS_gap ha hga),cutS_app (cutS_one (x:=59) (by decide)),cutS_gaps hgb]
  show some (us++fl w++[]++_,_)=_
  rw [List.append_nil]
 have g':∀{us:List Wd} {w:Wd} (b:List Nat),Gp b->cutS ([59]++b) us w=some (us++fl w++[[59]],[]):=fun {us w} b hgb=>by
  rw [cutS_app (cutS_one (x:=59) (by decide)),cutS_gaps hgb]
 intro e he
 unfold endsL at he
 simp only [List.mem_cons,List.not_mem_nil,or_false] at he
 have gp:∀l:List Nat,(l.all fun c=>c==32||c==10)=true->Gp l:=fun l h c hc=>by simpa using List.all_eq_true.mp h c hc
 rcases he with rfl | rfl | rfl | rfl
 ·exact ⟨by decide,fun us w=>g (s:=[]) [32] [10] (by decide) (gp _ rfl) (gp _ rfl)⟩
 ·exact ⟨by decide,fun us w=>g' [] (gp _ rfl)⟩
 ·exact ⟨by decide,fun us w=>g' [32] (gp _ rfl)⟩
 ·exact ⟨by decide,fun us w=>g (s:=[]) [10] [] (by decide) (gp _ rfl) (gp _ rfl)⟩
theorem text_row {s:List Nat} {x5 x6:Option D} (hc:H c=some (.list (strD row))) (hw:row.length<=110/\∀v∈row,Wo v/\v.length<=16) (h0:g≠[]) (hg:Gp g) (h3:g.length<=3) (x:Tx s E [] N) (hN:N<=800000)
  (h:∀s' H' x5 x6,H.Le H'->Tx s' (E++(row++[[59]])) [] (N+2200)->K .next [x0,some (.int z),some (.str g),some (.str s'),some (.ref c),x5,x6] H') :
  vSs ns c' b_l_text_5 [x0,some (.int z),some (.str g),some (.str s),some (.ref c),x5,x6] H K Y:=by
 have hl:=hw.1
 have hit:=iter_range (H:=H) (m:=row.length) (by omega)
 rw [List.range_eq_range'] at hit
 refine ⟨_,rfl,_,hc,?_⟩
 rw [len_strD]
 refine ⟨_,hit,text_inner (E:=E) hit hc hw.2 h0 hg h3 (by omega) (fun s' us w x5 x6 x' e'=>?_) row.length 0 (by exact jk34) x (by rw [List.take_zero,List.append_nil];exact List.append_nil _) (.inl rfl)⟩
 refine ⟨_,rfl,fun f hf=>⟨_,rfl,by decide,by decide,by decide,item_of (ns:=ns) (l:=strD endsL) (Q:=fun d H=>_) set_self' (by exact ul1 (uc1 ((_ / (10:Int)) % (4:Int))) (uK 0) u0 (uK 0) u0 rfl (uen (_ / (10:Int)) (4:Int) rfl)) (by show _ < (4:Int);exact ul1 (uc1 ((_ / (10:Int)) % (4:Int))) (uA u0 (uK 1)) (uK 4) (uA u0 (uK 1)) (uK 4) rfl (uel (_ / (10:Int)) (4:Int) rfl)) fun dd hd=>?_⟩⟩
 obtain ⟨e,he,rfl⟩:=List.mem_map.mp hd
 obtain ⟨e3,ec⟩:=ends_cut e he
 have xe:=x'.add (ec us w) e3
 have hxl:=xe.len
 rw [List.length_append] at hxl
 refine ⟨by show _<=1000000;omega,h _ _ _ _ (.set _ hf) ⟨by rw [<-List.append_assoc,<-e'];exact xe.cut,Nat.le_trans xe.len (by omega)⟩⟩
end
inductive RL (H:Hp):List D->List (List Wd)->Prop
 | nil:RL H [] []
 | cons {c:Addr} {ds:List D} {row:List Wd} {rows:List (List Wd)} (h:H c=some (.list (strD row))) (t:RL H ds rows):RL H (.ref c::ds) (row::rows)
theorem RL.le {H H':Hp} {ds:List D} {rows:List (List Wd)} (x:RL H ds rows) (h:H.Le H'):RL H' ds rows:=by
 induction x with
 | nil=>exact .nil
 | cons e _ ih=>exact .cons (h _ _ e) ih
theorem RL.len {H:Hp} {ds:List D} {rows:List (List Wd)} (x:RL H ds rows):ds.length=rows.length:=by
 induction x with
 | nil=>rfl
 | cons _ _ ih=>rw [List.length_cons,List.length_cons,ih]
theorem RL.app {H:Hp} {ds es:List D} {rows rows':List (List Wd)} (x:RL H ds rows) (y:RL H es rows'):RL H (ds++es) (rows++rows'):=by
 induction x with
 | nil=>exact y
 | cons e _ ih=>exact .cons e ih
theorem RL.take {H:Hp} {ds:List D} {rows:List (List Wd)} (x:RL H ds rows):∀k:Nat,RL H (ds.take k) (rows.take k):=by
 induction x with
 | nil=>intro k;rw [List.take_nil,List.take_nil];exact .nil
 | cons e _ ih=>
  intro k
  cases k with
  | zero=>exact .nil
  | succ k=>exact .cons e (ih k)
theorem RL.drop {H:Hp} {ds:List D} {rows:List (List Wd)} (x:RL H ds rows):∀k:Nat,RL H (ds.drop k) (rows.drop k):=by
 induction x with
 | nil=>intro k;rw [List.drop_nil,List.drop_nil];exact .nil
 | cons e t ih=>
  intro k
  cases k with
  | zero=>exact .cons e t
  | succ k=>exact ih k
section
variable {e:Addr} {all ds:List D} {rows:List (List Wd)} {H0:Hp} {K:Fl->Loc->Hp->Prop} {Y:Nat->Loc->Hp->Prop}
noncomputable def RowsOk (rows:List (List Wd)):Prop:=∀row∈rows,row.length<=110/\∀v∈row,Wo v/\v.length<=16
theorem text_loop {c':CallT} {z:Int} {g:List Nat} (h0:g≠[]) (hg:Gp g) (h3:g.length<=3) (he:H0 e=some (.list all)) (x:RL H0 ds rows):∀{s:List Nat} {E:List Wd} {N:Nat} {x4 x5 x6:Option D} {H:Hp},RowsOk rows->N+2200*rows.length<=800000->H0.Le H->Tx s E [] N ->
  (∀s' H' x4 x5 x6,H0.Le H'->Tx s' (E++endsT rows) [] (N+2200*rows.length)->K .next [some (.ref e),some (.int z),some (.str g),some (.str s'),x4,x5,x6] H') ->
  forL (.ref e) all (bodyQ 4 (vSs ns c' b_l_text_5) Y) K ds [some (.ref e),some (.int z),some (.str g),some (.str s),x4,x5,x6] H:=by
 induction x with
 | nil=>intro s E N x4 x5 x6 H _ _ hle tx h;exact ⟨iter_ref (hle _ _ he),h s H _ _ _ hle (by show Tx s (E++[]) [] _;rw [List.append_nil];exact tx)⟩
 | @cons c ds row rows hc _ ih=>
  intro s E N x4 x5 x6 H hr hN hle tx h
  rw [List.length_cons] at hN h
  refine ⟨iter_ref (hle _ _ he),text_row (hle _ _ hc) (hr row List.mem_cons_self) h0 hg h3 tx (by exact jl1 (jc2 _ _) (jA j0 (jM 2200 (jA j1 (jK 1)))) (jK 800000) j0 (jK 800000) rfl hN) fun s' H' x5 x6 le1 tx'=>?_⟩
  refine ih (fun r q=>hr r (List.mem_cons_of_mem _ q)) (by exact jl1 (jc2 _ _) (jA j0 (jM 2200 (jA j1 (jK 1)))) (jK 800000) (jA (jA j0 (jK 2200)) (jM 2200 j1)) (jK 800000) rfl hN) (hle.trans le1) tx' fun s2 H2 y4 y5 y6 le2 tx2=>h s2 H2 y4 y5 y6 le2 ?_
  rw [List.append_assoc,show N+2200+2200*rows.length=N+2200*(rows.length+1) by exact Nat.le_antisymm (jl0 (jc2 _ _) (jA (jA j0 (jK 2200)) (jM 2200 j1)) (jA j0 (jM 2200 (jA j1 (jK 1)))) rfl) (jl0 (jc2 _ _) (jA j0 (jM 2200 (jA j1 (jK 1)))) (jA (jA j0 (jK 2200)) (jM 2200 j1)) rfl)] at tx2
  exact tx2
noncomputable def gapsL:List (List Nat):=[[32],[10],[32,32],[32,10,32],[10,10]]
theorem gaps_ok:∀g∈gapsL,g≠[]/\(∀c∈g,c=32\/c=10)/\g.length<=3:=by decide
theorem text_spec (hC:CT ns defs C) {z:Int} (hl:rows.length<=150) (he:H e=some (.list ds)) (x:RL H ds rows) (hr:RowsOk rows) (h:∀s H',H.Le H'->Tx s (endsT rows) [] 330000->Q (.str s) H'):C (n+1) f_l_text [.ref e,.int z] H Q X:=by
 refine hC.intro (df:=d_l_text) rfl rfl fun f hf=>⟨_,rfl,by decide,item_of (ns:=ns) (l:=strD gapsL) (Q:=fun d H=>_) set_self' (by exact jk69) (by show _ < (5:Int);exact ul1 (uc1 (_ % (5:Int))) (uA u0 (uK 1)) (uK 5) (uA u0 (uK 1)) (uK 5) rfl (uel _ (5:Int) rfl)) fun dd hd=>?_⟩
 obtain ⟨g,hg,rfl⟩:=List.mem_map.mp hd
 obtain ⟨g0,g1,g3⟩:=gaps_ok g hg
 have le1:=Hp.Le.set (.list (strD gapsL)) hf
 refine ⟨_,rfl,_,iter_ref (le1 _ _ he),text_loop (E:=[]) (N:=0) g0 g1 g3 (le1 _ _ he) (x.le le1) hr (by exact jl1 (jc1 _) (jM 2200 j0) (jM 2200 (jK 150)) (jA (jK 0) (jM 2200 j0)) (jK 800000) rfl (jm _ 2200 j0 (jK 150) hl)) (.refl _) ⟨rfl,Nat.le_refl _⟩ fun s' H' x4 x5 x6 le2 tx=>⟨_,rfl,h s' H' (le1.trans le2) ⟨tx.cut,Nat.le_trans tx.len (by exact jl1 (jc1 _) (jM 2200 j0) (jM 2200 (jK 150)) (jA (jK 0) (jM 2200 j0)) (jK 330000) rfl (jm _ 2200 j0 (jK 150) hl))⟩⟩⟩
end
theorem dig_pow:∀k < 31,1<=k->powOf (dig k)=some ((k:Nat):Int):=by decide
theorem dig_cw:∀k < 31,dig k≠[]/\(dig k).length<=8/\∀c∈dig k,c∈k_SIGNS:=by decide
theorem kind_cw:∀k∈kinds,k≠[]/\k.length<=8/\∀c∈k,c∈k_SIGNS:=by decide
theorem cw_of {w:Wd} (h:w≠[]/\w.length<=8/\∀c∈w,c∈k_SIGNS):Cw w:=⟨.word h.1 h.2.2,h.2.1⟩
theorem op_cw:Cw [40]:=⟨.op,by decide⟩
theorem cl_cw:Cw [41]:=⟨.cl,by decide⟩
theorem tell_cw:Cw tell:=cw_of (by decide)
inductive Part where
 | tel (r:Row)
 | tree (x:Tre)
noncomputable def Part.d:Part->D
 | .tel r=>rowD r
 | .tree x=>x.d
noncomputable def Part.row (m:Int):Part->List Wd
 | .tel r=>[tell,r.kind,dig r.pow.toNat,r.word]
 | .tree x=>x.row m
inductive Gd (ws:List Wd):List Row->List Part->List Row->Prop
 | nil {t:List Row}:Gd ws t [] t
 | tel {t t':List Row} {r:Row} {ps:List Part} (hr:Tel ws r) (hc:clashF t r=false) (h:Gd ws (t++[r]) ps t'):Gd ws t (.tel r::ps) t'
 | tree {t t':List Row} {x:Tre} {ps:List Part} (hx:x.ok t) (hz:szD x.d<=49) (h:Gd ws t ps t'):Gd ws t (.tree x::ps) t'
section
variable {ws:List Wd} {t t' t'':List Row} {ps qs:List Part}
theorem Gd.app (x:Gd ws t ps t') (y:Gd ws t' qs t''):Gd ws t (ps++qs) t'':=by
 induction x with
 | nil=>exact y
 | tel hr hc _ ih=>exact .tel hr hc (ih y)
 | tree hx hz _ ih=>exact .tree hx hz (ih y)
theorem Gd.cut:∀{ps:List Part} {t:List Row},Gd ws t (ps++qs) t''->∃t',Gd ws t ps t'/\Gd ws t' qs t''
 | [],_,h=>⟨_,.nil,h⟩
 | .tel r::ps,_,h=>by
  cases h with
  | tel hr hc h=>obtain ⟨t',a,b⟩:=Gd.cut h;exact ⟨t',.tel hr hc a,b⟩
 | .tree x::ps,_,h=>by
  cases h with
  | tree hx hz h=>obtain ⟨t',a,b⟩:=Gd.cut h;exact ⟨t',.tree hx hz a,b⟩
theorem Gd.tb (x:Gd ws t ps t') (ht:Tb ws t):Tb ws t':=by
 induction x with
 | nil=>exact ht
 | tel hr hc _ ih=>exact ih (ht.add hr hc)
 | tree _ _ _ ih=>exact ih ht
theorem Gd.len (x:Gd ws t ps t'):t'.length<=t.length+ps.length:=by
 induction x with
 | nil=>exact Nat.le_refl _
 | tel _ _ _ ih=>rw [List.length_append] at ih;rw [List.length_cons];exact Nat.le_trans ih (by show _+1+_<=_;exact jl0 (jc2 _ _) (jA (jA j0 (jK 1)) j1) (jA j0 (jA j1 (jK 1))) rfl)
 | tree _ _ _ ih=>exact Nat.le_succ_of_le ih
theorem row_short (ht:Tb ws t) (m:Int):∀x:Tre,x.ok t->(x.row m).length<=2*szD x.d+1/\∀k pl pw,pw<=30->(opr (enF k pl pw x.pow) (x.row m)).length<=2*szD x.d+1
 | .name w,_=>by
  have h:=(brk_len m [w]).2
  refine ⟨h,fun k pl pw hp=>?_⟩
  rw [show enF k pl pw (Tre.name w).pow=true from en_top hp]
  exact h
 | .one r x,hx=>by
  have ih:=(row_short ht m x hx.2).2 r.kind 0 r.pow (ht.tel r hx.1.1).hi
  have main:((Tre.one r x).row m).length+2<=2*szD (Tre.one r x).d+1:=by
   show (brk m _).length+2<=2*(1+(1+(1+(szD x.d+0))))+1
   have e:([r.word]:List Wd).length=1:=rfl
   split
   ·have:=(brk_len m ([r.word]++opr (enF r.kind 0 r.pow x.pow) (x.row m))).2;rw [List.length_append] at this;omega
   ·have:=(brk_len m (opr (enF r.kind 0 r.pow x.pow) (x.row m)++[r.word])).2;rw [List.length_append] at this;omega
  exact ⟨Nat.le_trans (Nat.le_add_right _ 2) main,fun k pl pw _=>Nat.le_trans (opr_len (enF k pl pw (Tre.one r x).pow) ((Tre.one r x).row m)).2 main⟩
 | .two r x y,hx=>by
  have ih:=(row_short ht m x hx.2.1).2 r.kind 0 r.pow (ht.tel r hx.1.1).hi
  have ih':=(row_short ht m y hx.2.2).2 r.kind 1 r.pow (ht.tel r hx.1.1).hi
  have main:((Tre.two r x y).row m).length+2<=2*szD (Tre.two r x y).d+1:=by
   show (brk m _).length+2<=2*(1+(1+(1+(szD x.d+(szD y.d+0)))))+1
   have:=(brk_len m (opr (enF r.kind 0 r.pow x.pow) (x.row m)++[r.word]++opr (enF r.kind 1 r.pow y.pow) (y.row m))).2
   rw [List.length_append,List.length_append] at this
   have e:([r.word]:List Wd).length=1:=rfl
   omega
  exact ⟨Nat.le_trans (Nat.le_add_right _ 2) main,fun k pl pw _=>Nat.le_trans (opr_len (enF k pl pw (Tre.two r x y).pow) ((Tre.two r x y).row m)).2 main⟩
theorem Der.words (ht:Tb ws t) {x:Tre} {p q:Int} {l:List Wd} (h:Der t x p q l):∀w∈l,IsW w\/w=[40]\/w=[41]:=by
 induction h with
 | name h=>intro w hw;rw [List.mem_singleton.mp hw];exact .inl h.iw
 | par _ ih=>
  intro w hw
  rcases List.mem_cons.mp hw with rfl | hw
  ·exact .inr (.inl rfl)
  ·rcases List.mem_append.mp hw with hw | hw
   ·exact ih w hw
   ·rw [List.mem_singleton.mp hw];exact .inr (.inr rfl)
 | bef hr _ _ _ ih=>
  intro w hw
  rcases List.mem_cons.mp hw with rfl | hw
  ·exact .inl (ht.tel _ hr).word
  ·exact ih w hw
 | beh hr _ _ _ ih=>
  intro w hw
  rcases List.mem_append.mp hw with hw | hw
  ·exact ih w hw
  ·rw [List.mem_singleton.mp hw];exact .inl (ht.tel _ hr).word
 | two hr _ _ _ _ _ _ ih ih'=>
  intro w hw
  rcases List.mem_append.mp hw with hw | hw
  ·exact ih w hw
  ·rcases List.mem_cons.mp hw with rfl | hw
   ·exact .inl (ht.tel _ hr).word
   ·exact ih' w hw
structure TR (t:List Row) (x:Tre) (row:List Wd):Prop where
 der:∃p q,Der t x p q row
 cw:∀v∈row,Cw v
 ne:row.head?≠some tell
 len:row.length<=99
 nn:row≠[]
theorem tree_row (ht:Tb ws t) (m:Int) {x:Tre} (hx:x.ok t) (hz:szD x.d<=49):TR t x (x.row m):=by
 obtain ⟨p,q,hd,_⟩:=row_der ht (m:=m) hx
 refine ⟨⟨p,q,hd⟩,fun v hv=>?_,fun e=>?_,Nat.le_trans (row_short ht m x hx).1 (by exact jl1 (jc1 _) (jM 2 j0) (jM 2 (jK 49)) (jA (jM 2 j0) (jK 1)) (jK 99) rfl (jm _ 2 j0 (jK 49) hz)),fun e=>?_⟩
 ·rcases hd.words ht v hv with h | rfl | rfl
  ·exact h.cw
  ·exact op_cw
  ·exact cl_cw
 ·rcases hd.words ht tell (List.mem_of_mem_head? e) with q | q | q
  ·exact q.ne rfl
  ·cases q
  ·cases q
 ·have:=(row_len m x).1
  rw [e] at this
  have h0:1<=x.cnt:=by cases x <;> exact Nat.succ_pos _
  exact absurd (Nat.le_trans h0 this) (by decide)
theorem tel_cw {r:Row} (hr:Tel ws r):∀v∈[tell,r.kind,dig r.pow.toNat,r.word],Cw v:=by
 have hlo:=hr.lo
 have hhi:=hr.hi
 have hd:=dig_cw r.pow.toNat (by exact jk37 hhi)
 have hk:=kind_cw _ hr.kind
 intro v hv
 simp only [List.mem_cons,List.not_mem_nil,or_false] at hv
 rcases hv with rfl | rfl | rfl | rfl
 ·exact tell_cw
 ·exact cw_of hk
 ·exact cw_of hd
 ·exact hr.word.cw
theorem Wo.nsc {v:Wd} (h:Wo v):(v==[59])=false:=by
 induction h with
 | @word v h0 hs=>exact beq_eq_false_iff_ne.mpr fun q=>by rw [q] at hs;exact absurd (hs 59 (List.mem_singleton_self _)) (by decide)
 | op=>rfl
 | cl=>rfl
end
structure Rs (H0:Hp) (r d l f w c:Addr) (t:List Row) (ds:List D) (cur:List Wd) (all:List D) (H:Hp):Prop where
 gr:H r=some (.robj d (some l))
 gl:H l=some (.list (t.map rowD))
 gf:H f=some (.list ds)
 gw:H w=some (.list (strD cur))
 gc:H c=some (.list all)
 wf:w≠f
 wl:w≠l
 wc:w≠c
 fl:f≠l
 fc:f≠c
 le:H0.Le H
 nr:H0 r=none
 nf:H0 f=none
 nw:H0 w=none
section
variable {H0:Hp} {r d l f w c:Addr} {t t':List Row} {ds all:List D} {cur:List Wd} {ws:List Wd}
theorem Rs.wr (s:Rs H0 r d l f w c t ds cur all H):r≠w:=fun q=>by have:=s.gr;rw [q,s.gw] at this;cases this
theorem Rs.fr (s:Rs H0 r d l f w c t ds cur all H):r≠f:=fun q=>by have:=s.gr;rw [q,s.gf] at this;cases this
theorem Rs.add (s:Rs H0 r d l f w c t ds cur all H) (v:Wd):Rs H0 r d l f w c t ds (cur++[v]) all (H.set w (.list (strD cur++[.str v]))):=
 ⟨by rw [set_ne s.wr];exact s.gr,by rw [set_ne s.wl.symm];exact s.gl,by rw [set_ne s.wf.symm];exact s.gf,by rw [set_self'];unfold strD;rw [List.map_append];rfl,by rw [set_ne s.wc.symm];exact s.gc,s.wf,s.wl,s.wc,s.fl,s.fc,le_set_new s.le s.nw,s.nr,s.nf,s.nw⟩
theorem Rs.part {w':Addr} {x:D} (s:Rs H0 r d l f w c t ds cur all H) (hw:(H.set f (.list (ds++[x]))) w'=none):Rs H0 r d l f w' c t (ds++[x]) [] all ((H.set f (.list (ds++[x]))).set w' (.list [])):=by
 have hf:w'≠f:=fun q=>by rw [q,set_self'] at hw;cases hw
 have hw0:H w'=none:=by rw [set_ne hf] at hw;exact hw
 have lf:=le_set_new (o:=.list (ds++[x])) s.le s.nf
 refine ⟨?_,?_,?_,set_self',?_,hf,(ne_of s.gl hw0).symm,(ne_of s.gc hw0).symm,s.fl,s.fc,le_set lf hw,s.nr,s.nf,none_of_le lf hw⟩
 ·exact set_old (by rw [set_ne s.fr];exact s.gr) hw
 ·exact set_old (by rw [set_ne s.fl.symm];exact s.gl) hw
 ·exact set_old set_self' hw
 ·exact set_old (by rw [set_ne s.fc.symm];exact s.gc) hw
noncomputable def RdL (ns:List Int) (C:Nat->CallT) (n:Nat) (Q:D->Hp->Prop) (X:Nat->Hp->Prop) (c:Addr) (all:List D) (ws:List Wd) (l:Loc) (H:Hp):Prop:=
 forL (.ref c) all (bodyQ 4 (vSs ns (C (n+250)) b_read_3) fun k _ H'=>X k H') (seqQ (vSs ns (C (n+250)) b_read_1) (retQ Q) fun k _ H'=>X k H') (strD ws) l H
variable {tx:List Nat} {rest:List Wd}
theorem read_row:∀(row:List Wd) {cur:List Wd} {v:Option D} {H:Hp},(∀u∈row,Wo u)->cur.length+row.length<=1000->Rs H0 r d l f w c t ds cur all H ->
  (∀v' H',Rs H0 r d l f w c t ds (cur++row) all H'->RdL ns C n Q X c all rest [some (.str tx),some (.ref r),some (.ref f),some (.ref w),v'] H') ->
  RdL ns C n Q X c all (row++rest) [some (.str tx),some (.ref r),some (.ref f),some (.ref w),v] H
 | [],cur,v,H,_,_,s,h=>h v H (by rw [List.append_nil];exact s)
 | u::row,cur,v,H,hu,hl,s,h=>by
  rw [List.length_cons] at hl
  refine ⟨iter_ref s.gc,_,rfl,u==[59],rfl,_,rfl,?_⟩
  rw [(hu u List.mem_cons_self).nsc]
  refine ⟨_,rfl,⟨_,s.gw⟩,_,rfl,_,s.gw,by rw [len_strD];show _ < 1000000;exact jk38 hl,?_⟩
  refine read_row row (fun u h=>hu u (List.mem_cons_of_mem _ h)) (by rw [List.length_append];show _+1+_<=_;exact jk19 hl) (s.add u) fun v' H' s'=>h v' H' ?_
  rw [List.append_assoc] at s';exact s'
theorem read_end {v:Option D} (s:Rs H0 r d l f w c t ds cur all H) (h:C (n+250) f_m_take [.ref r,.ref w] H (fun x H1=>MA f x H1 fun _ H2=>∀w',H2 w'=none->RdL ns C n Q X c all rest [some (.str tx),some (.ref r),some (.ref f),some (.ref w'),some (.str [59])] (H2.set w' (.list []))) X) :
  RdL ns C n Q X c all ([59]::rest) [some (.str tx),some (.ref r),some (.ref f),some (.ref w),v] H:=
 ⟨iter_ref s.gc,_,rfl,true,rfl,true,rfl,_,rfl,⟨_,s.gf⟩,_,rfl,d,_,s.gr,_,rfl,h⟩
theorem read_parts (hC:CT ns defs C) {m:Int} {ps:List Part} (x:Gd ws t ps t'):∀{l w:Addr} {ds:List D} {v:Option D} {H:Hp},Tb ws t->t.length+ps.length<=1000->ds.length+ps.length<=1000->Rs H0 r d l f w c t ds [] all H ->
  (∀l' w' v' H',Rs H0 r d l' f w' c t' (ds++ps.map Part.d) [] all H'->RdL ns C n Q X c all rest [some (.str tx),some (.ref r),some (.ref f),some (.ref w'),v'] H') ->
  RdL ns C n Q X c all (endsT (ps.map (Part.row m))++rest) [some (.str tx),some (.ref r),some (.ref f),some (.ref w),v] H:=by
 induction x with
 | nil=>intro l w ds v H _ _ _ s h;exact h l w v H (by rw [List.map_nil,List.append_nil];exact s)
 | @tel t t' r0 ps hr hc _ ih=>
  intro l w ds v H ht hl hd s h
  rw [List.length_cons] at hl hd
  have hlo:=hr.lo
  have hhi:=hr.hi
  have hpw:=dig_pow r0.pow.toNat (by exact jk37 hhi) (by exact jk22 hlo)
  rw [Int.toNat_of_nonneg (by exact jk12 hlo)] at hpw
  show RdL ns C n Q X c all (([tell,r0.kind,dig r0.pow.toNat,r0.word]++[[59]])++endsT (ps.map (Part.row m))++rest) _ _
  rw [List.append_assoc,List.append_assoc]
  refine read_row [tell,r0.kind,dig r0.pow.toNat,r0.word] (fun v hv=>(tel_cw hr v hv).wo) (Nat.le_of_ble_eq_true rfl) s fun v1 H1 s1=>read_end s1 (take_ok (p:=dig r0.pow.toNat) hC hr hpw s1.gr s1.gl (by exact jl1 (jc2 _ _) (jA j0 (jA j1 (jK 1))) (jK 1000) j0 (jK 100000) rfl hl) s1.gw (fun q=>by rw [hc] at q;cases q) fun _ l' H2 g1 g2 g3 g4=>?_)
  have s2:Rs H0 r d l' f w c (t++[r0]) ds [tell,r0.kind,dig r0.pow.toNat,r0.word] all H2:=
   ⟨g1,g2,g4 f _ s1.fr.symm s1.gf,g4 w _ s1.wr.symm s1.gw,g4 c _ (fun q=>by have:=s1.gc;rw [q,s1.gr] at this;cases this) s1.gc,s1.wf,ne_of s1.gw g3,s1.wc,ne_of s1.gf g3,s1.fc,fun a o e=>g4 a o (ne_of e s1.nr) (s1.le a o e),s1.nr,s1.nf,s1.nw⟩
  refine ⟨_,s2.gf,by show _ < 1000000;exact jk38 hd,fun w' hw'=>?_⟩
  refine ih (ht.add hr hc) (by rw [List.length_append];show _+1+_<=_;exact jk19 hl) (by rw [List.length_append];show _+1+_<=_;exact jk19 hd) (s2.part hw') fun l' w' v' H' s'=>h l' w' v' H' ?_
  rw [List.append_assoc] at s';exact s'
 | @tree t t' x ps hx hz _ ih=>
  intro l w ds v H ht hl hd s h
  rw [List.length_cons] at hl hd
  have tr:=tree_row ht m hx hz
  have h99:=tr.len
  show RdL ns C n Q X c all ((x.row m++[[59]])++endsT (ps.map (Part.row m))++rest) _ _
  rw [List.append_assoc,List.append_assoc]
  obtain ⟨p,q,hd'⟩:=tr.der
  refine read_row (x.row m) (fun v hv=>(tr.cw v hv).wo) (by show 0+_<=_;exact jl1 (jc1 _) j0 (jK 99) (jA (jK 0) j0) (jK 1000) rfl h99) s fun v1 H1 s1=>read_end s1 (take_tree hC ht s1.gr s1.gl s1.gw tr.ne h99 (by show 2*(x.row m).length+7<=_;omega) (fun y p' q' hy=>?_) fun hno=>absurd hd' (hno x p q))
  obtain ⟨rfl,_⟩:=hd'.uniq ht hy
  refine ⟨_,s1.gf,by show _ < 1000000;exact jk38 hd,fun w' hw'=>?_⟩
  refine ih ht (by exact jl1 (jc2 _ _) (jA j0 (jA j1 (jK 1))) (jK 1000) (jA j0 j1) (jK 1000) rfl hl) (by rw [List.length_append];show _+1+_<=_;exact jk19 hd) (s1.part hw') fun l' w' v' H' s'=>h l' w' v' H' ?_
  rw [List.append_assoc] at s';exact s'
theorem Gd.full {ps:List Part} {m:Int} (x:Gd ws t ps t') (ht:Tb ws t):∀row∈ps.map (Part.row m),row≠[]/\(∀v∈row,Cw v)/\row.length<=99:=by
 induction x with
 | nil=>intro row h;cases h
 | tel hr hc _ ih=>
  intro row h
  rcases List.mem_cons.mp h with rfl | h
  ·exact ⟨List.cons_ne_nil _ _,tel_cw hr,Nat.le_of_ble_eq_true rfl⟩
  ·exact ih (ht.add hr hc) row h
 | tree hx hz _ ih=>
  intro row h
  rcases List.mem_cons.mp h with rfl | h
  ·exact ⟨(tree_row ht m hx hz).nn,(tree_row ht m hx hz).cw,(tree_row ht m hx hz).len⟩
  ·exact ih ht row h
theorem ends_fit {rows:List (List Wd)} (h:∀row∈rows,∀v∈row,Cw v):Fits (endsT rows):=fun v hv=>by
 obtain ⟨l,hl,hv⟩:=List.mem_flatten.mp hv
 obtain ⟨row,hr,rfl⟩:=List.mem_map.mp hl
 rcases List.mem_append.mp hv with hv | hv
 ·exact (h row hr v hv).len
 ·rw [List.mem_singleton.mp hv];exact Nat.le_of_ble_eq_true rfl
theorem read_text (hC:CT ns defs C) {m:Int} {ps:List Part} {w0:Wd} (x:Gd ws [] ps t') (hp:ps.length<=900) (hl:tx.length<=400000) (hcut:cutS (tx++[32]) [] []=some (endsT (ps.map (Part.row m))++rest,w0)) (hb:¬Fits rest->∀H',H.Le H'->X 1 H')
  (h:Fits rest->∀r d l f w c v all H',Rs H r d l f w c t' (ps.map Part.d) [] all H'->RdL ns C n Q X c all rest [some (.str tx),some (.ref r),some (.ref f),some (.ref w),v] H'):C (n+251) f_read [.str tx] H Q X:=by
 have hfit:=ends_fit fun row q=>((x.full (m:=m) .nil) row q).2.1
 refine hC.intro (df:=d_read) rfl rfl fun r d l hr hd hl' h1 h2 h3=>fun f hf=>fun w hw=>?_
 have le1:H.Le (((H.set l (.list [])).set d (.aux r)).set r (.robj d (some l))):=le_set_new (le_set_new (.set _ hl') hd) hr
 generalize hH1:((H.set l (.list [])).set d (.aux r)).set r (.robj d (some l))=H1 at le1 hf hw
 have r1:H1 r=some (.robj d (some l)):=by rw [<-hH1];exact set_self'
 have l1:H1 l=some (.list []):=by rw [<-hH1,set_ne h2,set_ne h3];exact set_self'
 have le2:=le_set (o:=.list []) le1 hf
 refine ⟨_,rfl,cut_spec hC hcut hl (fun hft c H2 le3 hc hc2=>⟨_,iter_ref hc2,read_parts hC x .nil (by show 0+_<=_;exact jk39 hp) (by show 0+_<=_;exact jk39 hp) (l:=l) (ds:=[]) (w:=w) ⟨le3 _ _ (set_old (set_old r1 hf) hw),le3 _ _ (set_old (set_old l1 hf) hw),le3 _ _ (set_old set_self' hw),le3 _ _ set_self',hc2,(ne_of set_self' hw).symm,(ne_of (set_old l1 hf) hw).symm,ne_of set_self' hc,(ne_of l1 hf).symm,ne_of (set_old set_self' hw) hc,(le_set le2 hw).trans le3,hr,none_of_le le1 hf,none_of_le le2 hw⟩ fun l' w' v' H' s'=>?_⟩) fun q H' le3=>hb (fun y=>q (hfit.app y)) H' ((le_set le2 hw).trans le3)⟩
 exact h (fun v hv=>hft v (List.mem_append_right _ hv)) r d l' f w' c v' _ H' s'
theorem read_done {v:Option D} (s:Rs H0 r d l f w c t ds [] all H) (h:Q (.ref f) H):RdL ns C n Q X c all [] [some (.str tx),some (.ref r),some (.ref f),some (.ref w),v] H:=
 ⟨iter_ref s.gc,_,rfl,_,s.gw,false,rfl,false,rfl,_,rfl,h⟩
theorem read_left {v:Option D} (s:Rs H0 r d l f w c t ds cur all H) (h0:cur≠[]) (h:X 4 H):RdL ns C n Q X c all [] [some (.str tx),some (.ref r),some (.ref f),some (.ref w),v] H:=by
 refine ⟨iter_ref s.gc,_,rfl,_,s.gw,decide (((strD cur).length:Int) > 0),rfl,_,rfl,?_⟩
 rw [len_strD,decide_eq_true (show ((cur.length:Nat):Int) > 0 by have:=List.length_pos_iff.mpr h0;exact jk36 this)]
 exact h
theorem read_good (hC:CT ns defs C) {m:Int} {ps:List Part} (x:Gd ws [] ps t') (hp:ps.length<=900) {N:Nat} (hN:N<=400000) (htx:Tx tx (endsT (ps.map (Part.row m))) [] N) (h:∀b H',H.Le H'->H b=none->H' b=some (.list (ps.map Part.d))->Q (.ref b) H'):C (n+251) f_read [.str tx] H Q X:=by
 refine read_text (rest:=[]) hC x hp (Nat.le_trans htx.len hN) (by rw [cutS_app htx.cut,List.append_nil];exact cutS_gaps (g:=[32]) fun c hc=>.inl (List.mem_singleton.mp hc)) (fun q=>absurd (fun v hv=>by cases hv) q) fun _ r d l f w c v all H' s=>read_done s (h f H' s.le s.nf s.gf)
end
theorem Tre.dc:∀x:Tre,3*x.dep+1<=szD x.d/\x.cnt<=szD x.d
 | .name _=>⟨Nat.le_refl _,Nat.le_refl _⟩
 | .one r y=>by have:=Tre.dc y;show 3*(y.dep+1)+1<=1+(1+(1+(szD y.d+0)))/\y.cnt+1<=1+(1+(1+(szD y.d+0)));exact ⟨jl1 (jc2 _ _) (jA (jM 3 j0) (jK 1)) j1 (jA (jM 3 (jA j0 (jK 1))) (jK 1)) (jA (jK 1) (jA (jK 1) (jA (jK 1) (jA j1 (jK 0))))) rfl this.1,jl1 (jc2 _ _) j0 j1 (jA j0 (jK 1)) (jA (jK 1) (jA (jK 1) (jA (jK 1) (jA j1 (jK 0))))) rfl this.2⟩
 | .two r x y=>by have:=Tre.dc x;have:=Tre.dc y;show 3*(max x.dep y.dep+1)+1<=1+(1+(1+(szD x.d+(szD y.d+0))))/\x.cnt+y.cnt+1<=1+(1+(1+(szD x.d+(szD y.d+0))));omega
noncomputable def Part.isTel:Part->Bool
 | .tel _=>true
 | .tree _=>false
noncomputable def Part.ok (t:List Row):Part->Prop
 | .tel _=>True
 | .tree x=>x.ok t
theorem is_tell_spec (hC:CT ns defs C) {p:Part} {t:List Row} (hp:p.ok t) (h:Q (.bool p.isTel) H):C (n+1) f_l_is_telling [p.d] H Q X:=by
 refine hC.intro (df:=d_l_is_telling) rfl rfl ?_
 cases p with
 | tel r=>exact ⟨_,rfl,true,rfl,true,rfl,_,rfl,0,_,rfl,rfl,true,rfl,h⟩
 | tree x=>
  cases x with
  | name w=>exact ⟨_,rfl,false,rfl,false,rfl,h⟩
  | one r y=>
   refine ⟨_,rfl,true,rfl,true,rfl,_,rfl,0,_,rfl,rfl,r.kind==tell,rfl,?_⟩
   rw [show (r.kind==tell)=false from beq_eq_false_iff_ne.mpr fun q=>by rcases hp.1.2 with k | k <;> rw [k] at q <;> exact absurd q (by decide)]
   exact h
  | two r y z=>exact ⟨_,rfl,true,rfl,true,rfl,_,rfl,0,_,rfl,rfl,false,rfl,h⟩
section
variable {ws:List Wd} {t t':List Row} {ps:List Part} {a b c e:Addr}
theorem ints_all {acc:List D} (h:∀r∈acc,∃c:Int,r=.int c):∃cs:List Int,acc=cs.map D.int:=by
 induction acc with
 | nil=>exact ⟨[],rfl⟩
 | cons r acc ih=>
  obtain ⟨l,rfl⟩:=ih fun r hr=>h r (List.mem_cons_of_mem _ hr)
  obtain ⟨v,rfl⟩:=h r List.mem_cons_self
  exact ⟨v::l,rfl⟩
structure Ps (H0:Hp) (ws:List Wd) (a e:Addr) (t:List Row) (ps:List Part) (H:Hp):Prop where
 gd:Gd ws [] ps t
 ga:H a=some (.list (t.map rowD))
 ge:H e=some (.list (ps.map Part.d))
 ae:a≠e
 but:But e H0 H
theorem Ps.tb {H0:Hp} (s:Ps H0 ws a e t ps H):Tb ws t:=s.gd.tb .nil
theorem Ps.len {H0:Hp} (s:Ps H0 ws a e t ps H):t.length<=ps.length:=by have:=s.gd.len;rw [List.length_nil,Nat.zero_add] at this;exact this
theorem Ps.le {H0 H':Hp} (s:Ps H0 ws a e t ps H) (h:H.Le H'):Ps H0 ws a e t ps H':=⟨s.gd,h _ _ s.ga,h _ _ s.ge,s.ae,s.but.trans (.le h)⟩
theorem Ps.add {H0:Hp} {p:Part} (s:Ps H0 ws a e t ps H) (x:Gd ws t [p] t') (ha:H c=some (.list (t'.map rowD))) (hc:c≠e):Ps H0 ws c e t' (ps++[p]) (H.set e (.list (ps.map Part.d++[p.d]))):=
 ⟨s.gd.app x,by rw [set_ne hc];exact ha,by rw [set_self',List.map_append];rfl,hc,s.but.trans But.set⟩
theorem tree_drawn (hC:CT ns defs C) {z:Int} {c5:Option D} {k:Nat} {H0:Hp} {K:Fl->Loc->Hp->Prop} {Y:Nat->Loc->Hp->Prop} (hws:Ws ws) (hk:k<=12) (hl:ps.length<=900) (s:Ps H0 ws a e t ps H) (hb:H b=some (.list (strD ws))) {c0:Option D}
  (h:∀x H',Ps H0 ws a e t (ps++[.tree x]) H'->K .next [c0,some (.ref b),some (.ref a),some (.ref e),some (.int z),c5,some (.int k)] H') :
  vSs ns (C (n+5)) b_l_parts_by_3 [c0,some (.ref b),some (.ref a),some (.ref e),some (.int z),c5,some (.int k)] H K Y:=by
 have hit:∀H:Hp,iterD H (.rng 1 ((k:Int)+1))=some (intsOf 1 ((k:Int)+1)):=fun H=>iter_rng (by exact ⟨ul0 (uc1 0) (uN (uK 400000)) (uK 1) rfl,⟨ul0 (uc1 0) (uK 1) (uK 400000) rfl,⟨ul1 (uc1 ((_:Nat):Int)) (uK 0) u0 (uN (uK 400000)) (uA u0 (uK 1)) rfl (Int.natCast_nonneg _),ul1 (uc1 ((_:Nat):Int)) u0 (uK 12) (uA u0 (uK 1)) (uK 400000) rfl (Int.ofNat_le.mpr hk)⟩⟩⟩)
 have hlk:(intsOf 1 ((k:Int)+1)).length<=12:=by unfold intsOf;rw [List.length_map,List.length_range];exact Int.ofNat_le.mp (ul2 (uc2 (((Int.toNat ((((_:Nat):Int)+(1:Int)) - (1:Int))):Nat):Int) ((_:Nat):Int)) u1 (uK 12) u0 (uS (uA u1 (uK 1)) (uK 1)) u0 (uK 12) rfl (Int.ofNat_le.mpr hk) (Int.le_of_eq (Int.toNat_of_nonneg (ul1 (uc1 ((_:Nat):Int)) (uK 0) u0 (uK 0) (uS (uA u0 (uK 1)) (uK 1)) rfl (Int.natCast_nonneg _)))))
 refine ⟨_,rfl,⟨_,s.ge⟩,_,rfl,_,rfl,_,hit _,compL_rel (fun d=>∃c:Int,d=.int c) (fun H'=>H'=H) (fun H' _=>hit H') (fun dd hd H' K hI hK=>?_) (fun acc H1 hI hlen hR c hc=>?_) rfl⟩
 ·obtain ⟨k,_,rfl⟩:=List.mem_map.mp hd
  exact ⟨_,rfl,_,rfl,mixed_spec hC (hK _ _ hI ⟨_,rfl⟩)⟩
 subst hI
 obtain ⟨cs,rfl⟩:=ints_all hR
 rw [List.length_map] at hlen
 have s1:=s.le (Hp.Le.set (.list (cs.map D.int)) hc)
 refine ⟨_,rfl,tree_by_spec2 hC s.tb hws (by exact jl2 (jc2 _ _) j0 j1 j1 (jK 12) j0 (jK 100) rfl (Nat.le_of_eq hlen) hlk) s1.ga (set_old hb hc) set_self' fun tr H2 htr hsz le2=>?_⟩
 obtain ⟨x,hx,rfl,_,_⟩:=htr.tre
 have s2:=s1.le le2
 refine ⟨_,s2.ge,by rw [List.length_map];show _ < 1000000;exact jk20 hl,h x _ (s2.add (.tree hx (by exact jl3 (jc3 _ _ _) j0 (jA (jK 1) (jM 4 j1)) (jM 4 j1) (jM 4 j2) (jM 4 j2) (jM 4 (jK 12)) j0 (jK 49) rfl hsz (jm _ 4 j1 j2 (Nat.le_of_eq hlen)) (jm _ 4 j2 (jK 12) hlk)) .nil) s2.ga s2.ae)⟩
theorem parts_body (hC:CT ns defs C) {z:Int} {c0 x5 x6:Option D} {H0:Hp} {K:Fl->Loc->Hp->Prop} {Y:Nat->Loc->Hp->Prop} (hws:Ws ws) (hl:ps.length<=900) (s:Ps H0 ws a e t ps H) (hb:H b=some (.list (strD ws)))
  (h:∀a' t' p H' x5 x6,Ps H0 ws a' e t' (ps++[p]) H'->But e H H'->K .next [c0,some (.ref b),some (.ref a'),some (.ref e),some (.int z),x5,x6] H') :
  vSs ns (C (n+5)) b_l_parts_by_5 [c0,some (.ref b),some (.ref a),some (.ref e),some (.int z),x5,x6] H K Y:=by
 have hlen:=s.len
 refine ⟨_,rfl,by decide,by decide,_,rfl,telling_by_spec hC hws hb fun r H1 hr le1=>?_⟩
 have s1:=s.le le1
 have hb1:=le1 _ _ hb
 have tree:vSs ns (C (n+5)) ((.assign 6 (.item (.list [(.bin .mod (.bin .fdiv (.var 4) (.lit (.int 24))) (.lit (.int 6))),(.lit (.int 12))]) (.bi .int [(.cmp .eq (.bin .mod (.bin .fdiv (.var 4) (.lit (.int 3))) (.lit (.int 8))) (.lit (.int 1)))])))::b_l_parts_by_3)
   [c0,some (.ref b),some (.ref a),some (.ref e),some (.int z),some (rowD r),x6] H1 K Y:=by
  refine ⟨_,rfl,by decide,by decide,by decide,fun g hg=>⟨_,rfl,by decide,by decide,by decide,z / 3 % 8==1,rfl,?_⟩⟩
  have s2:=s1.le (Hp.Le.set (.list [.int (z / 24 % 6),.int 12]) hg)
  have hb2:=set_old (o:=.list [.int (z / 24 % 6),.int 12]) hb1 hg
  have key:∀k:Nat,k<=12->vSs ns (C (n+5)) b_l_parts_by_3 [c0,some (.ref b),some (.ref a),some (.ref e),some (.int z),some (rowD r),some (.int k)] (H1.set g (.list [.int (z / 24 % 6),.int 12])) K Y:=fun k hk=>
   tree_drawn hC hws hk hl (H0:=H1.set g (.list [.int (z / 24 % 6),.int 12])) ⟨s2.gd,s2.ga,s2.ge,s2.ae,.refl⟩ hb2 fun x H' s'=>h a t (.tree x) H' _ _ ⟨s'.gd,s'.ga,s'.ge,s'.ae,s2.but.trans s'.but⟩ ((But.le (le_set le1 hg)).trans s'.but)
  cases z / 3 % 8==1 with
  | true=>exact item_at (ns:=ns) (i:=1) set_self' (by decide) rfl (key 12 (by decide))
  | false=>
   refine item_at (ns:=ns) (i:=0) set_self' (by decide) rfl ?_
   have:=key (z / 24 % 6).toNat (by exact Int.ofNat_le.mp (ul2 (uc2 (((Int.toNat ((_ / (24:Int)) % (6:Int))):Nat):Int) ((_ / (24:Int)) % (6:Int))) (uA u1 (uK 1)) (uK 6) u0 u1 u0 (uK 12) rfl (uel (_ / (24:Int)) (6:Int) rfl) (Int.le_of_eq (Int.toNat_of_nonneg (ul1 (uc1 ((_ / (24:Int)) % (6:Int))) (uK 0) u0 (uK 0) u0 rfl (uen (_ / (24:Int)) (6:Int) rfl))))))
   rw [Int.toNat_of_nonneg (by exact ul1 (uc1 ((_ / (24:Int)) % (6:Int))) (uK 0) u0 (uK 0) u0 rfl (uen (_ / (24:Int)) (6:Int) rfl))] at this
   exact this
 refine ⟨_,rfl,by decide,z % 3==0,rfl,_,rfl,?_⟩
 cases z % 3==0 with
 | false=>exact ⟨_,rfl,tree⟩
 | true=>
  refine ⟨_,rfl,_,rfl,clash_spec hC s1.ga ⟨clashF t r,rfl,?_⟩⟩
  refine ⟨_,rfl,?_⟩
  cases hc:clashF t r with
  | true=>exact tree
  | false=>
   refine ⟨_,rfl,_,rfl,fun g hg=>⟨_,_,set_old s1.ga hg,set_self',by rw [List.length_map];show _+1<=1000000;exact jl2 (jc2 _ _) j0 j1 j1 (jK 900) (jA j0 (jK 1)) (jK 1000000) rfl hlen hl,fun a' ha'=>?_⟩⟩
   have le2:=le_set (o:=.list (t.map rowD++[rowD r])) (Hp.Le.set (.list [rowD r]) hg) ha'
   have s2:=s1.le le2
   refine ⟨_,rfl,⟨_,s2.ge⟩,_,rfl,_,s2.ge,by rw [List.length_map];show _ < 1000000;exact jk20 hl,?_⟩
   have hne:a'≠e:=(ne_of (set_old s1.ge hg) ha').symm
   exact h a' (t++[r]) (.tel r) _ _ _ (s2.add (.tel hr hc .nil) (by rw [set_self',List.map_append];rfl) hne) ((But.le (le1.trans le2)).trans But.set)
theorem parts_loop (hC:CT ns defs C) {cs:List Int} {H0:Hp} {Kf:Fl->Loc->Hp->Prop} {Y:Nat->Loc->Hp->Prop} (hws:Ws ws) (hc:H0 c=some (.list (cs.map D.int))) (hb:H0 b=some (.list (strD ws))) (he:H0 e=none):∀(zs:List Int) {a:Addr} {t:List Row} {ps:List Part} {x4 x5 x6:Option D} {H:Hp},ps.length+zs.length<=900->Ps H0 ws a e t ps H ->
  (∀a' t' ps' H' x4 x5 x6,Ps H0 ws a' e t' ps' H'->ps'.length=ps.length+zs.length->Kf .next [some (.ref c),some (.ref b),some (.ref a'),some (.ref e),x4,x5,x6] H') ->
  forL (.ref c) (cs.map D.int) (bodyQ 4 (vSs ns (C (n+5)) b_l_parts_by_5) Y) Kf (zs.map D.int) [some (.ref c),some (.ref b),some (.ref a),some (.ref e),x4,x5,x6] H
 | [],a,t,ps,x4,x5,x6,H,_,s,h=>⟨iter_ref (s.but _ _ (ne_of hc he) hc),h a t ps H _ _ _ s rfl⟩
 | z::zs,a,t,ps,x4,x5,x6,H,hl,s,h=>by
  rw [List.length_cons] at hl
  refine ⟨iter_ref (s.but _ _ (ne_of hc he) hc),parts_body hC hws (by exact jk40 hl) s (s.but _ _ (ne_of hb he) hb) fun a' t' p H' x5' x6' s' _=>?_⟩
  refine parts_loop hC hws hc hb he zs (by rw [List.length_append];show _+1+_<=_;exact jk21 hl) s' fun a2 t2 ps2 H2 y4 y5 y6 s2 e2=>h a2 t2 ps2 H2 y4 y5 y6 s2 (by rw [e2,List.length_append];show _+1+_=_+(_+1);exact Nat.le_antisymm (jl0 (jc2 _ _) (jA (jA j0 (jK 1)) j1) (jA j0 (jA j1 (jK 1))) rfl) (jl0 (jc2 _ _) (jA j0 (jA j1 (jK 1))) (jA (jA j0 (jK 1)) j1) rfl))
theorem Gd.rep {x:Tre} (hx:x.ok t) (hz:szD x.d<=49):∀k:Nat,Gd ws t (List.replicate k (.tree x)) t
 | 0=>.nil
 | k+1=>.tree hx hz (Gd.rep hx hz k)
theorem rep_d (p:Part):∀k:Nat,(List.replicate k [p.d]).flatten=(List.replicate k p).map Part.d
 | 0=>rfl
 | k+1=>by rw [List.replicate_succ,List.replicate_succ,List.flatten_cons,rep_d p k];rfl
theorem Gd.last {p:Part} (x:Gd ws t (ps++[p]) t'):p.ok t'/\∀y,p=.tree y->y.ok t'/\szD y.d<=49:=by
 obtain ⟨t1,_,x⟩:=x.cut
 cases x with
 | tel hr hc x=>exact ⟨trivial,fun y q=>by cases q⟩
 | tree hx hz x=>cases x;exact ⟨hx,fun y q=>by cases q;exact ⟨hx,hz⟩⟩
theorem item_neg1 {l:List D} {x:D} (he:H e=some (.list (l++[x]))) (h:Q x H):vE ns c' X (.item (.var 3) (.neg (.lit (.int 1)))) [v0,v1,v2,some (.ref e),v4,v5,v6] H Q:=⟨_,rfl,1,rfl,item_last (B:=ns) h he⟩
theorem parts_by_spec (hC:CT ns defs C) {cs:List Int} (hws:Ws ws) (hcs:cs.length<=100) (hc:H c=some (.list (cs.map D.int))) (hb:H b=some (.list (strD ws)))
  (h:∀e ps t H',Gd ws [] ps t->ps.length<=130->H.Le H'->H e=none->H' e=some (.list (ps.map Part.d))->Q (.ref e) H'):C (n+6) f_l_parts_by [.ref c,.ref b] H Q X:=by
 refine hC.intro (df:=d_l_parts_by) rfl rfl fun a ha e he=>?_
 have he0:H e=none:=none_of_le (.set _ ha) he
 have s0:Ps H ws a e [] [] ((H.set a (.list [])).set e (.list [])):=⟨.nil,set_old set_self' he,set_self',ne_of set_self' he,.le (le_set (.set _ ha) he)⟩
 refine ⟨_,rfl,_,iter_ref (s0.but _ _ (ne_of hc he0) hc),parts_loop hC hws hc hb he0 cs (by show 0+_<=_;exact jl1 (jc1 _) j0 (jK 100) (jA (jK 0) j0) (jK 900) rfl hcs) s0 fun a' t ps H1 x4 x5 x6 s hlen=>?_⟩
 have hlen:ps.length=cs.length:=by rw [hlen];exact Nat.zero_add _
 have le1:H.Le H1:=fun d o q=>s.but d o (ne_of q he0) q
 have fin:∀{H'} {x4 x5 x6:Option D},H1.Le H'->vSs ns (C (n+5)) b_l_parts_by_0 [some (.ref c),some (.ref b),some (.ref a'),some (.ref e),x4,x5,x6] H' (retQ Q) fun k _ H'=>X k H':=fun hle=>⟨_,rfl,h e ps t _ s.gd (by exact jl2 (jc2 _ _) j0 j1 j1 (jK 100) j0 (jK 130) rfl (Nat.le_of_eq hlen) hcs) (le1.trans hle) he0 (hle _ _ s.ge)⟩
 refine ⟨_,rfl,fun g hg=>⟨_,ne_nil (set_old (le1 _ _ hc) hg) set_self',_,rfl,?_⟩⟩
 have leg:=Hp.Le.set (.list ([]:List D)) hg
 cases hcs0:cs with
 | nil=>rw [hcs0] at*;exact ⟨_,rfl,fin leg⟩
 | cons z zs=>
  have hc1:=leg _ _ (le1 _ _ hc)
  rw [hcs0] at hc1
  refine ⟨_,rfl,item_at (ns:=ns) (i:=0) (Q:=fun d H=>_) hc1 (by decide) rfl ⟨by decide,z % 5==1,rfl,_,rfl,?_⟩⟩
  cases z % 5==1 with
  | false=>exact ⟨_,rfl,fin leg⟩
  | true=>
   have hpos:ps.length=(ps.length - 1)+1:=by rw [hlen,hcs0,List.length_cons];rfl
   obtain ⟨qs,p,rfl,_⟩:=snoc hpos
   have he1:=leg _ _ s.ge
   rw [List.map_append] at he1
   refine item_neg1 (ns:=ns) he1 (is_tell_spec hC s.gd.last.1 ⟨_,rfl,_,rfl,?_⟩)
   cases p with
   | tel r=>exact fin leg
   | tree x=>
    obtain ⟨hx,hz⟩:=s.gd.last.2 x rfl
    refine ⟨_,rfl,item_neg1 (ns:=ns) (Q:=fun d H=>_) he1 fun f hf=>⟨_,set_self',(show 1*30<=1000000 by decide),by decide,by decide,fun g2 hg2=>⟨_,_,set_old (set_old he1 hf) hg2,set_self',?_,fun e2 he2=>?_⟩⟩⟩
    ·rw [<-List.map_append,List.length_map,rep_d (.tree x),List.length_map,List.length_replicate];show _+30<=1000000;exact jl2 (jc2 _ _) j0 j1 j1 (jK 100) (jA j0 (jK 30)) (jK 1000000) rfl (Nat.le_of_eq hlen) hcs
    ·rw [<-List.map_append,rep_d (.tree x),<-List.map_append]
     refine ⟨_,rfl,h e2 _ t _ (s.gd.app (Gd.rep hx hz 30)) ?_ (le1.trans (le_set (le_set (leg.trans (.set _ hf)) hg2) he2)) (none_of_le (le1.trans (le_set (leg.trans (.set _ hf)) hg2)) he2) set_self'⟩
     rw [List.length_append,List.length_replicate];show _+30<=130;exact jl2 (jc2 _ _) j0 j1 j1 (jK 100) (jA j0 (jK 30)) (jK 130) rfl (Nat.le_of_eq hlen) hcs
end
theorem RL.add {H:Hp} {ds:List D} {c:Addr} {row:List Wd} {rows:List (List Wd)} (x:RL H ds rows) (h:H c=some (.list (strD row))):RL H (ds++[.ref c]) (rows++[row]):=by
 induction x with
 | nil=>exact .cons h .nil
 | cons e _ ih=>exact .cons e ih
theorem RL.mut {H:Hp} {ds es:List D} {rows:List (List Wd)} {s:Addr} {o:HObj} (x:RL H ds rows) (hs:H s=some (.list es)) (he:es=[]->ds=[]) (hr:∀d∈es,∃c,d=.ref c):RL (H.set s o) ds rows:=by
 cases es with
 | nil=>rw [he rfl] at x ⊢;cases x;exact .nil
 | cons d es=>
  obtain ⟨c0,rfl⟩:=hr d List.mem_cons_self
  induction x with
  | nil=>exact .nil
  | @cons c ds row rows e _ ih=>
   refine .cons ?_ (ih fun q=>by cases q)
   rw [set_ne]
   ·exact e
   ·intro q
    rw [q,hs] at e
    cases row with
    | nil=>cases e
    | cons v vs=>cases e
theorem RL.refs {H:Hp} {ds:List D} {rows:List (List Wd)} (x:RL H ds rows):∀d∈ds,∃c,d=.ref c:=by
 induction x with
 | nil=>intro d h;cases h
 | @cons c _ _ _ _ _ ih=>
  intro d h
  rcases List.mem_cons.mp h with rfl | h
  ·exact ⟨c,rfl⟩
  ·exact ih d h
section
variable {ws:List Wd} {t t':List Row} {a e p:Addr} {all:List D} {m:Int} {H0:Hp} {Kf:Fl->Loc->Hp->Prop} {Y:Nat->Loc->Hp->Prop}
theorem rows_more {c:Addr} {ds:List D} {rows:List (List Wd)} {row:List Wd} (hl:ds.length<=900) (he:H e=some (.list ds)) (hr:RL H ds rows) (hc:H c=some (.list (strD row))) (hne:c≠e) (h:RL (H.set e (.list (ds++[.ref c]))) (ds++[.ref c]) (rows++[row])->Q .none (H.set e (.list (ds++[.ref c])))):vMeth .append (.ref e) [.ref c] H Q:=
 ⟨_,he,by show _ < 1000000;exact jk20 hl,h ((hr.mut he id hr.refs).add (by rw [set_ne hne];exact hc))⟩
theorem rows_loop (hC:CT ns defs C) {ps:List Part} (x:Gd ws t ps t'):∀{a:Addr} {ds:List D} {rows:List (List Wd)} {v4:Option D} {H:Hp},Tb ws t->t.length+ps.length<=900->ds.length+ps.length<=900->H0 p=some (.list all)->H0 e=none->But e H0 H->H a=some (.list (t.map rowD))->a≠e->H e=some (.list ds)->RL H ds rows ->
  (∀ds' v2 v4 H',But e H0 H'->H' e=some (.list ds')->RL H' ds' (rows++ps.map (Part.row m))->Kf .next [some (.ref p),some (.int m),v2,some (.ref e),v4] H') ->
  forL (.ref p) all (bodyQ 4 (vSs ns (C (n+250)) b_l_rows_by_2) Y) Kf (ps.map Part.d) [some (.ref p),some (.int m),some (.ref a),some (.ref e),v4] H:=by
 induction x with
 | nil=>intro a ds rows v4 H _ _ _ hp he0 b ha hae he hr h;exact ⟨iter_ref (b _ _ (ne_of hp he0) hp),h ds _ v4 H b he (by rw [List.map_nil,List.append_nil];exact hr)⟩
 | @tel t t' r ps hr hc' _ ih=>
  intro a ds rows v4 H ht hl hd hp he0 b ha hae he hrl h
  rw [List.length_cons] at hl hd
  have hlo:=hr.lo
  have hhi:=hr.hi
  refine ⟨iter_ref (b _ _ (ne_of hp he0) hp),_,rfl,is_tell_spec (p:=.tel r) (t:=t) hC trivial ⟨true,rfl,_,rfl,_,rfl,fun g hg=>⟨_,_,set_old ha hg,set_self',by rw [List.length_map];show _+1<=1000000;exact jl1 (jc2 _ _) (jA j0 (jA j1 (jK 1))) (jK 900) (jA j0 (jK 1)) (jK 1000000) rfl hl,fun a' ha'=>?_⟩⟩⟩
  have le1:=le_set (o:=.list (t.map rowD++[rowD r])) (Hp.Le.set (.list [rowD r]) hg) ha'
  have hne:a'≠e:=(ne_of (set_old he hg) ha').symm
  have ha1:((H.set g (.list [rowD r])).set a' (.list (t.map rowD++[rowD r]))) a'=some (.list ((t++[r]).map rowD)):=by rw [set_self',List.map_append];rfl
  refine ⟨_,rfl,⟨_,le1 _ _ he⟩,_,rfl,1,_,rfl,rfl,_,rfl,2,_,rfl,rfl,by exact jk12 hlo,by exact jk41 hhi,_,rfl,3,_,rfl,rfl,fun c hc=>?_⟩
  have le2:=le_set (o:=.list (strD [tell,r.kind,dig r.pow.toNat,r.word])) le1 hc
  refine rows_more (row:=[tell,r.kind,dig r.pow.toNat,r.word]) (by exact jk40 hd) (le2 _ _ he) (hrl.le le2) set_self' (ne_of (le1 _ _ he) hc).symm fun q=>?_
  refine ih (ht.add hr hc') (by rw [List.length_append];show _+1+_<=_;exact jk21 hl) (by rw [List.length_append];show _+1+_<=_;exact jk21 hd) hp he0 ((b.trans (.le le2)).trans But.set) (by rw [set_ne hne];exact set_old ha1 hc) hne set_self' q fun ds' v2 v4 H' g1 g2 g3=>h ds' v2 v4 H' g1 g2 (by rw [List.append_assoc] at g3;exact g3)
 | @tree t t' x ps hx hz _ ih=>
  intro a ds rows v4 H ht hl hd hp he0 b ha hae he hrl h
  rw [List.length_cons] at hl hd
  have hdc:=Tre.dc x
  refine ⟨iter_ref (b _ _ (ne_of hp he0) hp),_,rfl,is_tell_spec (p:=.tree x) (t:=t) hC hx ⟨false,rfl,_,rfl,⟨_,he⟩,_,rfl,_,rfl,_,rfl,row_by_spec hC ht x hx (by exact jl2 (jc3 _ _ _) (jA (jM 3 j0) (jK 1)) j2 j2 (jK 49) (jA (jM 2 j0) (jK 2)) (jA j1 (jK 250)) rfl hdc.1 hz) (by exact jl2 (jc2 _ _) j0 j1 j1 (jK 49) j0 (jK 10000) rfl hdc.2 hz) ha fun c H1 le1 hcn hc=>?_⟩⟩
  refine rows_more (row:=x.row m) (by exact jk40 hd) (le1 _ _ he) (hrl.le le1) hc (ne_of he hcn).symm fun q=>?_
  refine ih ht (by exact jl1 (jc2 _ _) (jA j0 (jA j1 (jK 1))) (jK 900) (jA j0 j1) (jK 900) rfl hl) (by rw [List.length_append];show _+1+_<=_;exact jk21 hd) hp he0 ((b.trans (.le le1)).trans But.set) (by rw [set_ne hae];exact le1 _ _ ha) hae set_self' q fun ds' v2 v4 H' g1 g2 g3=>h ds' v2 v4 H' g1 g2 (by rw [List.append_assoc] at g3;exact g3)
theorem rows_by_spec (hC:CT ns defs C) {ps:List Part} (x:Gd ws [] ps t') (hp:ps.length<=800) (hh:H p=some (.list (ps.map Part.d))) (h:∀b ds H',H.Le H'->H b=none->H' b=some (.list ds)->RL H' ds (ps.map (Part.row m))->Q (.ref b) H'):C (n+251) f_l_rows_by [.ref p,.int m] H Q X:=by
 refine hC.intro (df:=d_l_rows_by) rfl rfl fun a ha e he=>?_
 have he0:H e=none:=none_of_le (.set _ ha) he
 have le1:=le_set (o:=.list []) (Hp.Le.set (.list ([]:List D)) ha) he
 refine ⟨_,rfl,_,iter_ref (le1 _ _ hh),rows_loop (rows:=[]) hC x .nil (by show 0+_<=_;exact jk101 hp) (by show 0+_<=_;exact jk101 hp) hh he0 (.le le1) (set_old set_self' he) (ne_of set_self' he) set_self' .nil fun ds' v2 v4 H' g1 g2 g3=>⟨_,rfl,h e ds' H' (fun d o q=>g1 d o (ne_of q he0) q) he0 g2 g3⟩⟩
theorem Part.al:∀p:Part,Al p.d
 | .tel r=>row_al r
 | .tree x=>Tre.al x
theorem list_loop (hC:CT ns defs C) {b e:Addr} {ps:List Part} (hl:ps.length<=1000) (hz:∀p∈ps,szD p.d<=1000) (h:∀H',H0.Le H'->Q (.bool true) H'):∀(ks:List Nat) (x2:Option D) (H:Hp),(∀k∈ks,k < ps.length)->H0.Le H->H b=some (.list (ps.map Part.d))->H e=some (.list (ps.map Part.d)) ->
  forL (.rng 0 (ps.map Part.d).length) ((List.range (ps.map Part.d).length).map fun k:Nat=>D.int k) (bodyQ 2 (vSs ns (C (n+1)) b_l_list_1) Y)
   (seqQ (vSs ns (C (n+1)) b_l_list_0) (retQ Q) Y)
   (ks.map fun k:Nat=>D.int k) [some (.ref b),some (.ref e),x2] H
 | [],x2,H,_,hle,hb,he=>⟨iter_range (by rw [List.length_map];exact jk42 hl),h H hle⟩
 | k::ks,x2,H,hk,hle,hb,he=>by
  have hkl:=hk k List.mem_cons_self
  have hget:(ps.map Part.d)[((k:Nat):Int).toNat]?=some (ps[k].d):=by rw [List.getElem?_map,Int.toNat_natCast,List.getElem?_eq_getElem hkl];rfl
  refine ⟨iter_range (by rw [List.length_map];exact jk42 hl),_,rfl,_,rfl,item_at (ns:=ns) (Q:=fun d H=>_) hb (by exact jk1) hget ⟨_,rfl,_,rfl,item_at (ns:=ns) (Q:=fun d H=>_) he (by exact jk1) hget (alike_spec hC (Part.al _) (Nat.le_trans (hz _ (List.getElem_mem hkl)) (by decide)) fun H1 le1=>⟨true,rfl,false,rfl,?_⟩)⟩⟩
  exact list_loop hC hl hz h ks _ H1 (fun k hk'=>hk k (List.mem_cons_of_mem _ hk')) (hle.trans le1) (le1 _ _ hb) (le1 _ _ he)
theorem list_spec (hC:CT ns defs C) {b e:Addr} {ps:List Part} (hl:ps.length<=1000) (hz:∀p∈ps,szD p.d<=1000) (hb:H b=some (.list (ps.map Part.d))) (he:H e=some (.list (ps.map Part.d))) (h:∀H',H.Le H'->Q (.bool true) H'):C (n+2) f_l_list [.ref b,.ref e] H Q X:=by
 refine hC.intro (df:=d_l_list) rfl rfl ?_
 refine ⟨_,rfl,true,isI_ref (by decide) hb,true,rfl,false,rfl,_,rfl,_,hb,_,rfl,_,he,!(((ps.map Part.d).length:Int)==(ps.map Part.d).length),rfl,_,rfl,?_⟩
 rw [beq_self_eq_true]
 exact ⟨_,rfl,_,he,_,iter_range (by rw [List.length_map];exact jk42 hl),list_loop hC hl hz h _ none H (fun k hk=>by rw [List.length_map] at hk;exact List.mem_range.mp hk) (.refl _) hb he⟩
theorem Gd.sz {ps:List Part} (x:Gd ws t ps t'):∀p∈ps,szD p.d<=1000:=by
 induction x with
 | nil=>intro p h;cases h
 | tel _ _ _ ih=>
  intro p h
  rcases List.mem_cons.mp h with rfl | h
  ·exact Nat.le_of_ble_eq_true rfl
  ·exact ih p h
 | tree _ hz _ ih=>
  intro p h
  rcases List.mem_cons.mp h with rfl | h
  ·exact Nat.le_trans hz (by decide)
  ·exact ih p h
end
theorem Tre.sz:∀x:Tre,szD x.d<=4*x.cnt
 | .name _=>by show 1<=4*1;decide
 | .one r x=>by have:=Tre.sz x;show 1+(1+(1+(szD x.d+0)))<=4*(x.cnt+1);exact jl1 (jc2 _ _) j0 (jM 4 j1) (jA (jK 1) (jA (jK 1) (jA (jK 1) (jA j0 (jK 0))))) (jM 4 (jA j1 (jK 1))) rfl this
 | .two r x y=>by have:=Tre.sz x;have:=Tre.sz y;show 1+(1+(1+(szD x.d+(szD y.d+0))))<=4*(x.cnt+y.cnt+1);exact jl2 (jc4 _ _ _ _) j0 (jM 4 j2) j1 (jM 4 j3) (jA (jK 1) (jA (jK 1) (jA (jK 1) (jA j0 (jA j1 (jK 0)))))) (jM 4 (jA (jA j2 j3) (jK 1))) rfl ‹_› this
theorem wc_le:∀l:List Wd,wc l<=l.length
 | []=>Nat.le_refl _
 | w::l=>by have:=wc_le l;show (if isB w=true then 0 else 1)+wc l<=l.length+1;split <;> (first | exact jl1 (jc2 _ _) j0 j1 (jA (jK 0) j0) (jA j1 (jK 1)) rfl this | exact jl1 (jc2 _ _) j0 j1 (jA (jK 1) j0) (jA j1 (jK 1)) rfl this)
theorem hs_skip {c':CallT} {l:Loc} {v:Option Nat} {b:List St} {hs:List Hd} {k k':Nat} {K:Fl->Loc->Hp->Prop} (hk:subc k k'=false) (h:vHs ns c' hs k l H K):vHs ns c' (.mk k' v b::hs) k l H K:=by
 rw [vHs_cons,hk];exact h
inductive Num:Int->Nat->Prop
 | part:Num 1 4
 | tell:Num 2 2
 | much:Num 3 6
 | word:Num 4 1
 | clash:Num 5 3
noncomputable def Ref (C:Nat->CallT) (n:Nat) (tx:List Nat) (H:Hp) (x:Nat):Prop:=∀⦃Q:D->Hp->Prop⦄ ⦃X:Nat->Hp->Prop⦄,(∀H',H.Le H'->X x H')->C (n+251) f_read [.str tx] H Q X
section
variable {tx:List Nat} {k:Int} {x:Nat}
theorem refusal_of (hC:CT ns defs C) (hn:Num k x) (hr:Ref C n tx H x) (h:∀H',H.Le H'->Q (.int k) H'):C (n+252) f_l_refusal [.str tx] H Q X:=by
 refine hC.intro (df:=d_l_refusal) rfl rfl ⟨_,rfl,hr fun H' hle=>?_⟩
 induction hn with
 | part=>exact hs_none rfl (h H' hle)
 | tell=>exact show vHs ns (C (n+251)) _ 2 _ _ _ from hs_skip rfl (hs_none rfl (h H' hle))
 | much=>exact show vHs ns (C (n+251)) _ 6 _ _ _ from hs_skip rfl (hs_skip rfl (hs_none rfl (h H' hle)))
 | word=>exact show vHs ns (C (n+251)) _ 1 _ _ _ from hs_skip rfl (hs_skip rfl (hs_skip rfl (hs_none rfl (h H' hle))))
 | clash=>exact show vHs ns (C (n+251)) _ 3 _ _ _ from hs_skip rfl (hs_skip rfl (hs_skip rfl (hs_skip rfl (hs_none rfl (h H' hle)))))
theorem refused_of (hC:CT ns defs C) (hn:Num k x) (hr:Ref C n tx H x) (h:∀H',H.Le H'->Q (.bool true) H'):C (n+252) f_l_refused_by_any [.str tx] H Q X:=by
 have hx:1<=x/\x<=6:=by cases hn <;> decide
 exact hC.intro (df:=d_l_refused_by_any) rfl rfl ⟨_,rfl,hr fun H' hle=>hs_some rfl fun e=>⟨_,rfl,alone_spec hC hx.1 hx.2 (h H' hle)⟩⟩
end
theorem cutS_wg {us:List Wd} {u:Wd} {g:List Nat} (hu:Wo u) (h0:g≠[]) (hg:Gp g):cutS (u++g) us []=some (us++[u],[]):=by
 induction hu with
 | @word u n0 hs=>rw [cutS_app (cutS_word hs),cutS_gap h0 hg];show some (us++fl u,_)=_;rw [fl_ne n0]
 | op=>rw [cutS_app (cutS_one (by decide)),cutS_gaps hg];show some (us++[]++_,_)=_;rw [List.append_nil]
 | cl=>rw [cutS_app (cutS_one (by decide)),cutS_gaps hg];show some (us++[]++_,_)=_;rw [List.append_nil]
theorem gp32:Gp [32]:=fun _ hc=>.inl (List.mem_singleton.mp hc)
theorem cutS_row:∀{row us:List Wd},(∀u∈row,Wo u)->cutS (row.map (·++[32])).flatten us []=some (us++row,[])
 | [],us,_=>by rw [List.append_nil];rfl
 | u::row,us,h=>by
  rw [List.map_cons,List.flatten_cons,cutS_app (cutS_wg (h u List.mem_cons_self) (by decide) gp32),cutS_row fun u hu=>h u (List.mem_cons_of_mem _ hu),List.append_assoc];rfl
structure La (v:List Nat) (ls:List Wd):Prop where
 cut:∀us,cutS (v++[32]) us []=some (us++ls,[])
 ne:ls≠[]
 cw:∀u∈ls,Cw u
 len:v.length<=1000
 ll:ls.length<=100
theorem La.of {v:List Nat} {ls:List Wd} (ex:List Nat) (hx:Gp ex) (e:v++[32]=(ls.map (·++[32])).flatten++ex) (ne:ls≠[]) (cw:∀u∈ls,Cw u) (len:v.length<=999) (ll:ls.length<=100):La ([32]++v) ls:=
 ⟨fun us=>by rw [List.append_assoc,cutS_app (cutS_gaps gp32),e,cutS_app (cutS_row fun u hu=>(cw u hu).wo),cutS_gaps hx],ne,cw,by rw [List.length_append];show 1+_<=_;exact jl1 (jc1 _) j0 (jK 999) (jA (jK 1) j0) (jK 1000) rfl len,ll⟩
section
variable {ws:List Wd} {t:List Row} {ps:List Part} {m:Int} {tx v:List Nat} {ls row more:List Wd} {r d l f w c:Addr} {ds all:List D} {H0:Hp}
theorem read_open (hC:CT ns defs C) (gd:Gd ws [] ps t) (hp:ps.length<=900) (htx:Tx tx (endsT (ps.map (Part.row m))) [] 330000) (la:La v ls):Ref C n (tx++v) H 4:=fun Q X h=>by
 have h1:=htx.len
 have h2:=la.len
 refine read_text hC gd hp (by rw [List.length_append];exact jk102 h1 h2) (by rw [List.append_assoc,cutS_app htx.cut];exact la.cut _) (fun q=>absurd (fun u hu=>(la.cw u hu).len) q) fun _ r d l f w c v0 all H' s=>?_
 have:=read_row (ns:=ns) (C:=C) (n:=n) (Q:=Q) (X:=X) (tx:=tx++v) (v:=v0) (rest:=[]) ls (fun u hu=>(la.cw u hu).wo) (by show 0+_<=_;have:=la.ll;exact jl1 (jc1 _) j0 (jK 100) (jA (jK 0) j0) (jK 1000) rfl this) s fun v' H' s'=>read_left s' la.ne (h H' s'.le)
 rw [List.append_nil] at this
 exact this
theorem read_more {v:Option D} (hw:∀u∈row,Wo u) (hl:row.length<=900) (s:Rs H0 r d l f w c t ds [] all H)
  (h:∀H',Rs H0 r d l f w c t ds row all H'->C (n+250) f_m_take [.ref r,.ref w] H' (fun x H1=>MA f x H1 fun _ H2=>∀w',H2 w'=none->RdL ns C n Q X c all more [some (.str tx),some (.ref r),some (.ref f),some (.ref w'),some (.str [59])] (H2.set w' (.list []))) X) :
  RdL ns C n Q X c all (row++[59]::more) [some (.str tx),some (.ref r),some (.ref f),some (.ref w),v] H:=
 read_row row hw (by show 0+_<=_;exact jk39 hl) s fun _ H' s'=>read_end s' (h H' s')
theorem read_once (hC:CT ns defs C) (gd:Gd ws [] ps t) (hp:ps.length<=900) (hl:tx.length<=400000) (hcut:cutS (tx++[32]) [] []=some (endsT (ps.map (Part.row m))++(row++[[59]]),[])) (cw:∀u∈row,Cw u) (h9:row.length < 10) (hh:row.head?≠some tell)
  (h1:∀x p q,Der t x p q row->∀b H',H.Le H'->H' b=some (.list (ps.map Part.d++[x.d]))->Q (.ref b) H') (h2:(∀x p q,¬Der t x p q row)->∀H',H.Le H'->X 4 H'):C (n+251) f_read [.str tx] H Q X:=by
 refine read_text hC gd hp hl hcut (fun q=>absurd (Fits.app (fun u hu=>(cw u hu).len) fun u hu=>by rw [List.mem_singleton.mp hu];exact Nat.le_of_ble_eq_true rfl) q) fun _ r d l f w c v all H' s=>?_
 refine read_more (fun u hu=>(cw u hu).wo) (by exact jl1 (jc1 _) (jA j0 (jK 1)) (jK 10) j0 (jK 900) rfl h9) s fun H2 s2=>take_tree hC (gd.tb .nil) s2.gr s2.gl s2.gw hh (by exact jl1 (jc1 _) (jA j0 (jK 1)) (jK 10) j0 (jK 99) rfl h9) (by exact jl1 (jc2 _ _) (jM 2 (jA j0 (jK 1))) (jM 2 (jK 10)) (jA (jM 2 j0) (jK 7)) (jA j1 (jK 250)) rfl (jm _ 2 (jA j0 (jK 1)) (jK 10) h9)) (fun x p q hx=>⟨_,s2.gf,by rw [List.length_map];show _ < 1000000;exact jk20 hp,fun w' hw'=>?_⟩) fun no=>h2 no H2 s2.le
 have s3:=s2.part hw'
 exact read_done s3 (h1 x p q hx f _ s3.le s3.gf)
inductive Wr (t:List Row):List Wd->Int->Nat->Prop
 | part (row:List Wd) (cw:∀u∈row,Cw u) (h0:row.head?≠some L.tell) (h99:row.length<=99) (no:∀x p q,¬Der t x p q row):Wr t row 1 4
 | tell (row:List Wd) (cw:∀u∈row,Cw u) (hl:row.length<=105) (no:∀κ p v i,row=[κ,p,v]->powOf p=some i->¬(κ∈kinds/\(1<=i/\i<=30)/\IsW v)):Wr t (L.tell::row) 2 2
 | long (row:List Wd) (cw:∀u∈row,Cw u) (h0:row.head?≠some L.tell) (h99:99 < row.length) (hl:row.length<=105):Wr t row 3 6
 | word (v:Wd) (wo:Wo v) (h8:8 < v.length) (h16:v.length<=16):Wr t [v] 4 1
 | clash (r:Row) (hr:Tel [] r) (hc:clashF t r=true):Wr t [L.tell,r.kind,dig r.pow.toNat,r.word] 5 3
variable {k:Int} {x:Nat}
theorem Wr.num (y:Wr t row k x):Num k x:=by
 induction y with
 | part=>exact .part
 | tell=>exact .tell
 | long=>exact .much
 | word=>exact .word
 | clash=>exact .clash
theorem Wr.ok (y:Wr t row k x):row.length<=110/\∀v∈row,Wo v/\v.length<=16:=by
 have up:∀{v:Wd},Cw v->Wo v/\v.length<=16:=fun h=>⟨h.wo,Nat.le_trans h.len (by decide)⟩
 induction y with
 | part _ cw h0 h99 no=>exact ⟨by exact jk43 h99,fun v hv=>up (cw v hv)⟩
 | tell row cw hl no=>
  refine ⟨by rw [List.length_cons];exact jl1 (jc1 _) j0 (jK 105) (jA j0 (jK 1)) (jK 110) rfl hl,fun v hv=>up ?_⟩
  rcases List.mem_cons.mp hv with rfl | hv
  ·exact tell_cw
  ·exact cw v hv
 | long _ cw h0 h99 hl=>exact ⟨by exact jl1 (jc1 _) j0 (jK 105) j0 (jK 110) rfl hl,fun v hv=>up (cw v hv)⟩
 | word v wo h8 h16=>exact ⟨Nat.le_of_ble_eq_true rfl,fun u hu=>by rw [List.mem_singleton.mp hu];exact ⟨wo,h16⟩⟩
 | clash r hr hc=>exact ⟨Nat.le_of_ble_eq_true rfl,fun v hv=>up (tel_cw hr v hv)⟩
theorem Wr.fit (y:Wr t row k x):(k=4->¬Fits row)/\(k≠4->Fits row):=by
 have up:∀{row:List Wd},(∀u∈row,Cw u)->Fits row:=fun h u hu=>(h u hu).len
 induction y with
 | part _ cw h0 h99 no=>exact ⟨fun q=>absurd q (by decide),fun _=>up cw⟩
 | tell row cw hl no=>
  refine ⟨fun q=>absurd q (by decide),fun _=>up fun v hv=>?_⟩
  rcases List.mem_cons.mp hv with rfl | hv
  ·exact tell_cw
  ·exact cw v hv
 | long _ cw h0 h99 hl=>exact ⟨fun q=>absurd q (by decide),fun _=>up cw⟩
 | word v wo h8 h16=>exact ⟨fun _ q=>absurd (q v List.mem_cons_self) (by exact jk103 h8),fun q=>absurd rfl q⟩
 | clash r hr hc=>exact ⟨fun q=>absurd q (by decide),fun _=>up (tel_cw hr)⟩
theorem take_wrong (hC:CT ns defs C) (ht:Tb ws t) (htl:t.length<=1000) (y:Wr t row k x) (hf:Fits row) (hr:H r=some (.robj d (some l))) (hl:H l=some (.list (t.map rowD))) (hb:H w=some (.list (strD row))) (h:X x H):C (n+250) f_m_take [.ref r,.ref w] H Q X:=by
 induction y with
 | part _ cw h0 h99 no=>exact take_tree hC ht hr hl hb h0 h99 (by exact jl1 (jc2 _ _) (jM 2 j0) (jM 2 (jK 99)) (jA (jM 2 j0) (jK 7)) (jA j1 (jK 250)) rfl (jm _ 2 j0 (jK 99) h99)) (fun x p q hx=>absurd hx (no x p q)) fun _=>h
 | tell row cw hl no=>
  refine take_bad hC hr hb (fun κ p v i e q=>?_) h
  have:=no κ p v i e q
  by_cases q1:κ∈kinds
  ·by_cases q2:1<=i/\i<=30
   ·exact .noword κ i v q1 q2 fun q3=>this ⟨q1,q2,q3⟩
   ·exact .range κ i _ q1 q2
  ·exact .noKind κ _ _ q1
 | long _ cw h0 h99 _=>exact take_long hC hr hb h0 h99 h
 | word v wo h8 _=>exact absurd (hf v List.mem_cons_self) (by exact jk103 h8)
 | clash r0 hr0 hc=>
  have hlo:=hr0.lo
  have hhi:=hr0.hi
  have hpw:=dig_pow r0.pow.toNat (by exact jk37 hhi) (by exact jk22 hlo)
  rw [Int.toNat_of_nonneg (by exact jk12 hlo)] at hpw
  exact take_ok (p:=dig r0.pow.toNat) hC hr0 hpw hr hl (by exact jl1 (jc1 _) j0 (jK 1000) j0 (jK 100000) rfl htl) hb (fun _=>h) fun q=>by rw [hc] at q;cases q
theorem read_wrong (hC:CT ns defs C) {x':Nat} (gd:Gd ws [] ps t) (hp:ps.length<=900) (hl:tx.length<=400000) (hcut:cutS (tx++[32]) [] []=some (endsT (ps.map (Part.row m))++(row++[59]::more),[])) (y:Wr t row k x) (h1:Fits (row++[59]::more)->x'=x) (h2:¬Fits (row++[59]::more)->x'=1):Ref C n tx H x':=fun Q X h=>by
 have hlen:=gd.len
 rw [List.length_nil] at hlen
 refine read_text hC gd hp hl hcut (fun q H' hle=>by have:=h H' hle;rw [h2 q] at this;exact this) fun q r d l f w c v all H' s=>?_
 refine read_more (fun u hu=>(y.ok.2 u hu).1) (by have:=y.ok.1;exact jl1 (jc1 _) j0 (jK 110) j0 (jK 900) rfl this) s fun H2 s2=>take_wrong hC (gd.tb .nil) (by exact jl2 (jc2 _ _) j0 (jA (jK 0) j1) j1 (jK 900) j0 (jK 1000) rfl hlen hp) y (fun u hu=>q u (List.mem_append_left _ hu)) s2.gr s2.gl s2.gw ?_
 have:=h H2 s2.le
 rw [h1 q] at this
 exact this
end
noncomputable def WrL (t:List Row) (H:Hp) (l:List D):Prop:=∀d∈l,∃c k row x,d=.tup [.ref c,.int k]/\H c=some (.list (strD row))/\Wr t row k x
noncomputable def MkW (ns:List Int) (c':CallT) (Y:Nat->Hp->Prop) (loc:Loc) (t:List Row) (H0:Hp) (e:Ex):Prop:=∀⦃H:Hp⦄ ⦃Q:D->Hp->Prop⦄,H0.Le H->(∀c k row x H',H.Le H'->H' c=some (.list (strD row))->Wr t row k x->Q (.tup [.ref c,.int k]) H')->vE ns c' Y e loc H Q
inductive MkL (ns:List Int) (c':CallT) (Y:Nat->Hp->Prop) (loc:Loc) (t:List Row) (H0:Hp):List Ex->Prop
 | nil:MkL ns c' Y loc t H0 []
 | cons {e:Ex} {es:List Ex} (h:MkW ns c' Y loc t H0 e) (r:MkL ns c' Y loc t H0 es):MkL ns c' Y loc t H0 (e::es)
noncomputable def odds:List Wd:=[[48],[51,49],[48,54],[120],[48,48,55],[43,53],[49,46],[45,49]]
theorem odds_bad:∀o∈odds,(powOf o=none\/powOf o=some 31)/\o≠[]/\o.length<=8/\∀c∈o,c∈k_SIGNS:=by decide
theorem rep_one (v:Wd):∀k:Nat,(List.replicate k [D.str v]).flatten=strD (List.replicate k v)
 | 0=>rfl
 | k+1=>by rw [List.replicate_succ,List.replicate_succ,List.flatten_cons,rep_one v k];rfl
section
variable {c':CallT} {Y:Nat->Hp->Prop} {loc:Loc} {t:List Row} {H0:Hp} {es:List Ex} {ws:List Wd} {row:List Wd} {w s:Addr}
theorem WrL.le {H H':Hp} {l:List D} (hle:H.Le H') (y:WrL t H l):WrL t H' l:=fun d hd=>let ⟨c,k,row,x,e,h,z⟩:=y d hd;⟨c,k,row,x,e,hle _ _ h,z⟩
theorem WrL.app {l m:List D} (y:WrL t H l) (z:WrL t H m):WrL t H (l++m):=fun u hu=>(List.mem_append.mp hu).elim (y u) (z u)
theorem MkL.run (x:MkL ns c' Y loc t H0 es):∀{H:Hp} {K:List D->Hp->Prop},H0.Le H->(∀ds H',H.Le H'->ds.length=es.length->WrL t H' ds->K ds H')->vEs ns c' Y es loc H K:=by
 induction x with
 | nil=>intro H K _ h;exact h [] H (.refl _) rfl fun _ q=>by cases q
 | cons h _ ih=>
  intro H K hle hK
  exact h hle fun c k row x H1 le1 hc hw=>ih (hle.trans le1) fun ds H2 le2 hl hr=>hK _ H2 (le1.trans le2) (by rw [List.length_cons,List.length_cons,hl]) fun d hd=>by
   rcases List.mem_cons.mp hd with rfl | hd
   ·exact ⟨c,k,row,x,rfl,le2 _ _ hc,hw⟩
   ·exact hr d hd
theorem MkL.more {i:Nat} {ds0:List D} (x:MkL ns c' Y loc t H0 es) (hs:H0 s=some (.list ds0)) (hv:lget loc i=some (.ref s)) (h0:WrL t H0 ds0) (hl:ds0.length+es.length<=100)
  (h:∀b ds H',H0.Le H'->H' b=some (.list ds)->ds.length=ds0.length+es.length->WrL t H' ds->Q (.ref b) H'):vE ns c' Y (.bin .add (.var i) (.list es)) loc H0 Q:=by
 refine ⟨_,hv,x.run (.refl _) fun ds H1 le1 hlen hr b hb=>⟨ds0,ds,set_old (le1 _ _ hs) hb,set_self',by rw [hlen];show _<=1000000;exact jl1 (jc2 _ _) (jA j0 j1) (jK 100) (jA j0 j1) (jK 1000000) rfl hl,fun e he=>?_⟩⟩
 have le2:=le_set (o:=.list (ds0++ds)) (le_set (o:=.list ds) le1 hb) he
 exact h e _ _ le2 set_self' (by rw [List.length_append,hlen]) (WrL.app (h0.le le2) (hr.le (le_set (.set _ hb) he)))
theorem no_told (ht:Tb ws t) (h:∀v∈row,∀x∈t,x.word≠v) (h1:row.length≠1) (hh:heldF row=false):∀x p q,¬Der t x p q row:=fun x p q hd=>by
 rcases hd.held ht with ⟨e,_⟩ | ⟨_,_,⟨v,_,e,_⟩ | ⟨_,k,hr⟩⟩
 ·rw [e] at hh;cases hh
 ·rw [e] at h1;exact h1 rfl
 ·have no:∀{y:Row},y∈t->row[k]?=some y.word->False:=fun hy e=>h _ (List.mem_of_getElem? e) _ hy rfl
  cases hr.tells with
  | fore y _ _ _ hy hw=>exact no hy hw
  | hind y _ _ _ hy hw=>exact no hy hw
  | mid y _ _ _ _ _ _ hy hw=>exact no hy hw
theorem told_in (ht:Tb ws t) {r:Row} (hr:r∈t):clashF t r=true:=by
 unfold clashF;rw [ht.uniq r hr];exact Bool.or_true _
theorem kind_in {r:Row} (hr:r∈t) {k:List Nat} {v:Wd} (hk:r.kind≠k):clashF t ⟨k,r.pow,v⟩=true:=by
 unfold clashF
 rw [List.any_eq_true.mpr ⟨r,hr,by show (r.pow==r.pow&&!(r.kind==k))=true;rw [beq_self_eq_true,beq_eq_false_iff_ne.mpr hk];rfl⟩];rfl
theorem cw_two {u v:Wd} (hu:Cw u) (hv:Cw v):∀y∈[u,v],Cw y:=fun y hy=>by
 simp only [List.mem_cons,List.not_mem_nil,or_false] at hy
 rcases hy with rfl | rfl
 ·exact hu
 ·exact hv
theorem cw_more {u:Wd} {l:List Wd} (hu:Cw u) (hl:∀y∈l,Cw y):∀y∈u::l,Cw y:=fun y hy=>by
 rcases List.mem_cons.mp hy with rfl | hy
 ·exact hu
 ·exact hl y hy
theorem cw_rep {u:Wd} (hu:Cw u) (k:Nat):∀y∈List.replicate k u,Cw y:=fun y hy=>by rw [List.eq_of_mem_replicate hy];exact hu
theorem wrong_pick {z m:Int} {L:List D} (hL:(L.length:Int)=m) (hm:0 < m) (hs:H s=some (.list L)) (y:WrL t H L) (h:∀c k row x,H c=some (.list (strD row))->Wr t row k x->Q (.tup [.ref c,.int k]) H):vItem (.ref s) (.int (z % m)) ns H Q:=by
 refine item_of hs (Int.emod_nonneg _ (Int.ne_of_gt hm)) (by rw [hL];exact Int.emod_lt_of_pos _ hm) fun d hd=>?_
 obtain ⟨c,k,row,x,rfl,hc,hw⟩:=y d hd
 exact h c k row x hc hw
theorem left_cw:Cw leftK:=cw_of (by decide)
structure W3 (ns:List Int) (ws:List Wd) (t:List Row) (w:Addr) (H0:Hp) (s0 s6 s7:Wd):Prop where
 i0:∀{H':Hp} {Q:D->Hp->Prop},H0.Le H'->Q (.str s0) H'->vItem (.ref w) (.int 0) ns H' Q
 i6:∀{H':Hp} {Q:D->Hp->Prop},H0.Le H'->Q (.str s6) H'->vItem (.ref w) (.int 6) ns H' Q
 i7:∀{H':Hp} {Q:D->Hp->Prop},H0.Le H'->Q (.str s7) H'->vItem (.ref w) (.int 7) ns H' Q
 c0:IsW s0
 c6:IsW s6
 c7:IsW s7
 n6:∀x∈t,x.word≠s6
 n7:∀x∈t,x.word≠s7
theorem w3_of (hws:Ws ws) (ht:Tb ws t) (hw:H w=some (.list (strD ws))):∃s0 s6 s7,W3 ns ws t w H s0 s6 s7:=by
 have h8:=hws.len
 have it:∀(k:Nat) (hk:k < 8) {H':Hp} {Q:D->Hp->Prop},H.Le H'->Q (.str (ws[k]'(by omega))) H'->vItem (.ref w) (.int k) ns H' Q:=fun k hk H' Q hle q=>item_at (i:=k) (hle _ _ hw) (by exact jk1) (strD_get (by exact Int.ofNat_le.mp (ul3 (uc3 (((Int.toNat ((_:Nat):Int)):Nat):Int) ((_:Nat):Int) ((_:Nat):Int)) (uA u2 (uK 1)) (uK 8) (uK 8) u1 u0 u2 (uA u0 (uK 1)) u1 rfl (Int.ofNat_le.mpr hk) (Int.ofNat_le.mpr (Nat.le_of_eq (Eq.symm h8))) (Int.le_of_eq (Int.toNat_of_nonneg (ul1 (uc1 ((_:Nat):Int)) (uK 0) u0 (uK 0) u0 rfl (Int.natCast_nonneg _))))))) q
 have nt:∀(k:Nat) (h6:6<=k) (hk:k < 8),∀x∈t,x.word≠ws[k]'(by omega):=fun k h6 hk x hx q=>(ht.tel x hx).wm (q ▸ List.mem_drop_iff_getElem.mpr ⟨k - 6,by omega,by congr 1;exact jk74 h6⟩)
 exact ⟨_,_,_,fun hle q=>it 0 (by decide) hle q,fun hle q=>it 6 (by decide) hle q,fun hle q=>it 7 (by decide) hle q,hws.ok _ (List.getElem_mem _),hws.ok _ (List.getElem_mem _),hws.ok _ (List.getElem_mem _),nt 6 (by decide) (by decide),nt 7 (by decide) (by decide)⟩
theorem W3.le {s0 s6 s7:Wd} {H H':Hp} (x:W3 ns ws t w H s0 s6 s7) (h:H.Le H'):W3 ns ws t w H' s0 s6 s7:=
 ⟨fun hle=>x.i0 (h.trans hle),fun hle=>x.i6 (h.trans hle),fun hle=>x.i7 (h.trans hle),x.c0,x.c6,x.c7,x.n6,x.n7⟩
theorem run_assign {i:Nat} {e:Ex} {rest:List St} {K:Fl->Loc->Hp->Prop} {Y:Nat->Loc->Hp->Prop} (h:vE ns c' (fun k H=>Y k loc H) e loc H fun d H'=>vSs ns c' rest (loc.set i (some d)) H' K Y):vSs ns c' (.assign i e::rest) loc H K Y:=h
variable {s0 s6 s7:Wd} {z:Int} {told:D} {L:List D}
theorem wrong_3 {x3 x5:Option D} (ht:Tb ws t) (w3:W3 ns ws t w H s0 s6 s7) (htold:told=.none\/∃r∈t,told=rowD r) (hle:H0.Le H) (hs:H s=some (.list L)) (hL:L.length=8) (y:WrL t H L)
  (h:∀c k row x H',H0.Le H'->H' c=some (.list (strD row))->Wr t row k x->Q (.tup [.ref c,.int k]) H'):vSs ns c' b_l_wrong_3 [some (.int z),some (.ref w),some told,x3,some (.ref s),x5] H (retQ Q) fun k _ H'=>X k H':=by
 rcases htold with rfl | ⟨r,hr,rfl⟩
 ·exact ⟨_,rfl,true,rfl,true,rfl,_,rfl,_,rfl,by decide,wrong_pick (ns:=ns) (m:=8) (by rw [hL];rfl) (by decide) hs y fun c k row x hc hx=>h c k row x H hle hc hx⟩
 ·have hT:=ht.tel r hr
  have hlo:=hT.lo
  have hhi:=hT.hi
  have hT0:∀{k:Wd} {v:Wd},k∈kinds->IsW v->Tel [] ⟨k,r.pow,v⟩:=fun hk hv=>⟨hk,hlo,hhi,hv,fun q=>by cases q⟩
  refine ⟨_,rfl,false,rfl,false,rfl,?_⟩
  refine fun g hg=>⟨_,rfl,1,_,rfl,rfl,r.kind==leftK,rfl,?_⟩
  have le1:=Hp.Le.set (.list (strD [leftK,rightK])) hg
  have fin:∀{κ:Wd},κ∈kinds->r.kind≠κ->vSs ns c' b_l_wrong_1 [some (.int z),some (.ref w),some (rowD r),x3,some (.ref s),some (.str κ)] (H.set g (.list (strD [leftK,rightK]))) (retQ Q) fun k _ H'=>X k H':=fun {κ} hκ hne=>by
   have w1:=w3.le le1
   refine run_assign (MkL.more ?_ (le1 _ _ hs) rfl (y.le le1) (by rw [hL];exact Nat.le_of_ble_eq_true rfl) fun b ds H2 le2 hb hlen hr2=>⟨_,rfl,_,rfl,by decide,wrong_pick (ns:=ns) (m:=10) (by rw [hlen,hL];rfl) (by decide) hb hr2 fun c k row x hc hx=>h c k row x H2 ((hle.trans le1).trans le2) hc hx⟩)
   refine .cons (fun H' Q' hle hq=>⟨_,rfl,1,_,rfl,rfl,_,rfl,2,_,rfl,rfl,by exact jk12 hlo,by exact jk41 hhi,_,rfl,3,_,rfl,rfl,fun c hc=>hq c 5 [tell,r.kind,dig r.pow.toNat,r.word] 3 _ (.set _ hc) set_self' (.clash r (hT0 hT.kind hT.word) (told_in ht hr))⟩) (.cons (fun H' Q' hle hq=>⟨_,rfl,_,rfl,2,_,rfl,rfl,by exact jk12 hlo,by exact jk41 hhi,_,rfl,w1.i6 (Q:=fun d H=>_) hle fun c hc=>hq c 5 [tell,κ,dig r.pow.toNat,s6] 3 _ (.set _ hc) set_self' (.clash ⟨κ,r.pow,s6⟩ (hT0 hκ w3.c6) (kind_in hr hne))⟩) .nil)
  cases hk:r.kind==leftK with
  | true=>exact item_at (ns:=ns) (i:=1) set_self' (by decide) rfl (fin (κ:=rightK) (by decide) (by rw [eq_of_beq hk];decide))
  | false=>exact item_at (ns:=ns) (i:=0) set_self' (by decide) rfl (fin (κ:=leftK) (by decide) (beq_eq_false_iff_ne.mp hk))
theorem wrong_5 {x3 x5:Option D} (ht:Tb ws t) (w3:W3 ns ws t w H s0 s6 s7) (htold:told=.none\/∃r∈t,told=rowD r) (hle:H0.Le H) (hs:H s=some (.list L)) (hL:L.length=4) (y:WrL t H L)
  (h:∀c k row x H',H0.Le H'->H' c=some (.list (strD row))->Wr t row k x->Q (.tup [.ref c,.int k]) H'):vSs ns c' b_l_wrong_5 [some (.int z),some (.ref w),some told,x3,some (.ref s),x5] H (retQ Q) fun k _ H'=>X k H':=by
 have l6:=w3.c6.le
 have p6:=w3.c6.pos
 refine run_assign (MkL.more ?_ hs rfl y (by rw [hL];exact Nat.le_of_ble_eq_true rfl) fun b ds H2 le2 hb hlen hr2=>run_assign (MkL.more ?_ hb rfl hr2 (by rw [hlen,hL];exact Nat.le_of_ble_eq_true rfl) fun b3 ds3 H3 le3 hb3 hlen3 hr3=>wrong_3 ht (w3.le (le2.trans le3)) htold (hle.trans (le2.trans le3)) hb3 (by rw [hlen3,hlen,hL];rfl) hr3 h))
 ·refine .cons (fun H' Q' hle hq=>⟨_,rfl,w3.i6 (Q:=fun d H=>_) hle ⟨_,rfl,w3.i6 (Q:=fun d H=>_) hle fun c hc=>hq c 2 [tell,leftK,[55],s6,s6] 2 _ (.set _ hc) set_self' (.tell _ (cw_more left_cw (cw_more (cw_of (by decide)) (cw_two w3.c6.cw w3.c6.cw))) (Nat.le_of_ble_eq_true rfl) fun κ p v i e q z=>by cases e)⟩⟩) (.cons (fun H' Q' hle hq=>⟨_,rfl,w3.i7 (Q:=fun d H=>_) hle fun c hc=>⟨_,set_self',(show 1*100<=1000000 by decide),by decide,by decide,fun c2 hc2=>hq c2 3 (List.replicate 100 s7) 6 _ (le_set (.set _ hc) hc2) (by rw [set_self'];exact congrArg (fun l=>some (HObj.list l)) (rep_one s7 100)) (.long _ (cw_rep w3.c7.cw 100) (fun e=>w3.c7.ne (List.eq_of_mem_replicate (List.mem_of_mem_head? e)).symm) (by rw [List.length_replicate];decide) (by rw [List.length_replicate];decide))⟩⟩) (.cons (fun H' Q' hle hq=>⟨_,rfl,w3.i6 (Q:=fun d H=>_) hle ⟨by show _+8<=1000000;exact jl1 (jc1 _) j0 (jK 8) (jA j0 (jK 8)) (jK 1000000) rfl l6,fun c hc=>hq c 4 [s6++[97,98,99,100,101,102,103,104]] 1 _ (.set _ hc) set_self' (.word _ (.word (fun q=>by have:=congrArg List.length q;rw [List.length_append] at this;cases this) fun x hx=>(List.mem_append.mp hx).elim (w3.c6.sg x) fun hx=>(by decide:∀x∈([97,98,99,100,101,102,103,104]:List Nat),x∈k_SIGNS) x hx) (by rw [List.length_append];show 8 < _+8;exact jl1 (jc1 _) (jK 1) j0 (jA (jK 8) (jK 1)) (jA j0 (jK 8)) rfl p6) (by rw [List.length_append];show _+8<=16;exact jl1 (jc1 _) j0 (jK 8) (jA j0 (jK 8)) (jK 16) rfl l6))⟩⟩) .nil))
 ·refine .cons (fun H' Q' hle hq=>fun c hc=>⟨_,rfl,w3.i0 (Q:=fun d H=>_) (le2.trans (le_set hle hc)) fun c2 hc2=>⟨_,set_self',(show 1*100<=1000000 by decide),by decide,by decide,fun c3 hc3=>⟨_,_,set_old (set_old set_self' hc2) hc3,set_self',?_,fun c4 hc4=>hq c4 2 (tell::leftK::[54]::List.replicate 100 s0) 2 _ (le_set (le_set (le_set (.set _ hc) hc2) hc3) hc4) ?_ (.tell _ (cw_more left_cw (cw_more (cw_of (by decide)) (cw_rep w3.c0.cw 100))) (by rw [List.length_cons,List.length_cons,List.length_replicate];decide) fun κ p v i e q z=>?_)⟩⟩⟩) .nil
  ·rw [show (List.replicate (100:Int).toNat [D.str s0]).flatten=strD (List.replicate 100 s0) from rep_one s0 100,len_strD,List.length_replicate];show 3+100<=1000000;decide
  ·rw [set_self'];exact congrArg (fun l=>some (HObj.list ([.str tell,.str leftK,.str [54]]++l))) (rep_one s0 100)
  ·have:=congrArg List.length e;rw [List.length_cons,List.length_cons,List.length_replicate] at this;cases this
theorem wrong_spec (hC:CT ns defs C) (hws:Ws ws) (ht:Tb ws t) (hw:H w=some (.list (strD ws))) (htold:told=.none\/∃r∈t,told=rowD r) (h:∀c k row x H',H.Le H'->H' c=some (.list (strD row))->Wr t row k x->Q (.tup [.ref c,.int k]) H'):C (n+1) f_l_wrong [.int z,.ref w,told] H Q X:=by
 refine hC.intro (df:=d_l_wrong) rfl rfl fun g hg=>⟨_,rfl,by decide,by decide,by decide,item_of (ns:=ns) (l:=strD odds) (Q:=fun d H=>_) set_self' (by exact ul1 (uc1 ((_ / (10:Int)) % (8:Int))) (uK 0) u0 (uK 0) u0 rfl (uen (_ / (10:Int)) (8:Int) rfl)) (by show _ < (8:Int);exact ul1 (uc1 ((_ / (10:Int)) % (8:Int))) (uA u0 (uK 1)) (uK 8) (uA u0 (uK 1)) (uK 8) rfl (uel (_ / (10:Int)) (8:Int) rfl)) fun dd hd=>?_⟩
 obtain ⟨odd,ho,rfl⟩:=List.mem_map.mp hd
 obtain ⟨hod,ocw⟩:=odds_bad odd ho
 have le1:=Hp.Le.set (.list (strD odds)) hg
 obtain ⟨s0,s6,s7,w3⟩:=w3_of (ns:=ns) hws ht (le1 _ _ hw)
 have nb:∀{v:Wd},¬IsW v->∀x∈t,x.word≠v:=fun hv x hx q=>hv (q ▸ (ht.tel x hx).word)
 have two:∀{u v:Wd},(∀x∈t,x.word≠u)->(∀x∈t,x.word≠v)->∀y∈[u,v],∀x∈t,x.word≠y:=fun hu hv y hy=>by
  simp only [List.mem_cons,List.not_mem_nil,or_false] at hy
  rcases hy with rfl | rfl
  ·exact hu
  ·exact hv
 refine run_assign (MkL.run (t:=t) (H0:=H.set g (.list (strD odds))) ?_ (.refl _) fun ds H2 le2 hlen hr2 b hb=>wrong_5 ht (w3.le (le_set le2 hb)) htold (le1.trans (le_set le2 hb)) set_self' hlen (hr2.le (.set _ hb)) h)
 refine .cons (fun H' Q' hle hq=>fun c hc=>hq c 1 [] 4 _ (.set _ hc) set_self' (.part _ (fun _ q=>by cases q) (fun e=>by cases e) (Nat.zero_le _) fun x p q hd=>hd.ne rfl)) (.cons (fun H' Q' hle hq=>⟨_,rfl,w3.i6 (Q:=fun d H=>_) hle ⟨_,rfl,w3.i7 (Q:=fun d H=>_) hle fun c hc=>hq c 1 [s6,s7] 4 _ (.set _ hc) set_self' (.part _ (cw_two w3.c6.cw w3.c7.cw) (fun e=>by cases e;exact w3.c6.ne rfl) (Nat.le_of_ble_eq_true rfl) (no_told ht (two w3.n6 w3.n7) (fun e=>by cases e) (held_w w3.c6)))⟩⟩) (.cons (fun H' Q' hle hq=>⟨_,rfl,w3.i6 (Q:=fun d H=>_) hle fun c hc=>hq c 1 [[40],s6] 4 _ (.set _ hc) set_self' (.part _ (cw_two op_cw w3.c6.cw) (fun e=>by cases e) (Nat.le_of_ble_eq_true rfl) (no_told ht (two (nb fun q=>sign_out q n40 rfl) w3.n6) (fun e=>by cases e) (by show (true&&hgo 1 [s6])=false;rw [hgo_w (by decide) w3.c6];rfl)))⟩) (.cons (fun H' Q' hle hq=>⟨_,rfl,_,rfl,w3.i0 (Q:=fun d H=>_) hle fun c hc=>hq c 2 [tell,leftK,odd,s0] 2 _ (.set _ hc) set_self' (.tell _ (cw_more left_cw (cw_two (cw_of ocw) w3.c0.cw)) (Nat.le_of_ble_eq_true rfl) fun κ p v i e q z=>?_)⟩) .nil)))
 cases e
 rcases hod with q1 | q1
 ·rw [q1] at q;cases q
 ·rw [q1] at q;cases q;exact absurd z.2.1.2 (by decide)
end
section
variable {ws:List Wd} {t t':List Row} {e:Addr}
theorem Gd.tells {ps:List Part} (x:Gd ws t ps t'):t'.map rowD=t.map rowD++(ps.filter Part.isTel).map Part.d:=by
 induction x with
 | nil=>rw [List.filter_nil,List.map_nil,List.append_nil]
 | tel _ _ _ ih=>rw [ih,List.map_append,List.append_assoc];rfl
 | tree _ _ _ ih=>rw [ih];rfl
theorem Gd.oks {ps:List Part} (x:Gd ws t ps t'):∀q∈ps,∃t,q.ok t:=by
 induction x with
 | nil=>intro q h;cases h
 | tel _ _ _ ih=>
  intro q h
  rcases List.mem_cons.mp h with rfl | h
  ·exact ⟨[],trivial⟩
  ·exact ih q h
 | @tree t _ _ _ hx _ _ ih=>
  intro q h
  rcases List.mem_cons.mp h with rfl | h
  ·exact ⟨t,hx⟩
  ·exact ih q h
theorem told_comp (hC:CT ns defs C) {l:Loc} {all:List D} {Qf:List D->Hp->Prop} (he:H e=some (.list all)):∀(ps acc:List Part),(∀q∈ps,∃t,q.ok t)->Qf ((acc++ps.filter Part.isTel).map Part.d) H ->
  compL (.ref e) all (fun d H K=>vE ns (C (n+1)) (fun _ _=>False) (.call f_l_is_telling [(.var 0)]) (some d::l) H fun b H'=>KB b fun r=>if r then vE ns (C (n+1)) (fun _ _=>False) (.var 0) (some d::l) H' fun r H''=>K (some r) H'' else K none H') Qf (ps.map Part.d) (acc.map Part.d) H
 | [],acc,_,h=>⟨iter_ref he,by rw [List.filter_nil,List.append_nil] at h;exact h⟩
 | q::ps,acc,hq,h=>by
  obtain ⟨t,ht⟩:=hq q List.mem_cons_self
  refine ⟨iter_ref he,_,rfl,is_tell_spec hC ht ⟨_,rfl,?_⟩⟩
  have ih:=fun acc=>told_comp (l:=l) (Qf:=Qf) hC he ps acc fun q hp=>hq q (List.mem_cons_of_mem _ hp)
  cases q with
  | tel r=>have:=ih (acc++[.tel r]) (by rw [List.append_assoc];exact h);rw [List.map_append] at this;exact ⟨_,rfl,this⟩
  | tree x=>exact ih acc h
noncomputable def ShL (R:List (List Wd)) (H:Hp) (l:List D):Prop:=∀d∈l,∃c row,d=.ref c/\H c=some (.list (strD row))/\row∈R/\row.length < 10/\row.head?≠some tell
theorem short_comp {c':CallT} {l:Loc} {all ds:List D} {rows R:List (List Wd)} {Qf:List D->Hp->Prop} (he:H e=some (.list all)) (x:RL H ds rows):∀{acc:List D},(∀row∈rows,row∈R/\row≠[])->ShL R H acc->(∀es,ShL R H es->Qf es H) ->
  compL (.ref e) all (fun d H K=>vE ns c' (fun _ _=>False) (.and (.cmp .lt (.bi .len [(.var 0)]) (.lit (.int 10))) (.cmp .ne (.item (.var 0) (.lit (.int 0))) (.lit (.str [116,101,108,108])))) (some d::l) H fun b H'=>KB b fun r=>if r then vE ns c' (fun _ _=>False) (.var 0) (some d::l) H' fun r H''=>K (some r) H'' else K none H') Qf ds acc H:=by
 induction x with
 | nil=>intro acc _ ha h;exact ⟨iter_ref he,h acc ha⟩
 | @cons c ds row rows hc _ ih=>
  intro acc hr ha h
  have ih:=fun {acc:List D}=>ih (acc:=acc) (fun r q=>hr r (List.mem_cons_of_mem _ q))
  obtain ⟨hR,h0⟩:=hr row List.mem_cons_self
  refine ⟨iter_ref he,_,rfl,_,hc,decide (((strD row).length:Int) < 10),rfl,_,rfl,?_⟩
  rw [len_strD]
  by_cases h10:row.length < 10
  ·rw [decide_eq_true (show (row.length:Int) < 10 by exact ul1 (uc1 ((_:Nat):Int)) (uA u0 (uK 1)) (uK 10) (uA u0 (uK 1)) (uK 10) rfl (Int.ofNat_le.mpr h10))]
   cases row with
   | nil=>exact absurd rfl h0
   | cons u row=>
    refine ⟨_,rfl,row_at (ns:=ns) (k:=0) (Q:=fun d H=>_) hc (Nat.succ_pos _) ⟨!(u==tell),rfl,_,rfl,?_⟩⟩
    cases hu:u==tell with
    | true=>exact ih ha h
    | false=>
     refine ⟨_,rfl,ih (fun d hd=>?_) h⟩
     rcases List.mem_append.mp hd with hd | hd
     ·exact ha d hd
     ·exact ⟨c,_,List.mem_singleton.mp hd,hc,hR,h10,fun q=>by rw [Option.some.inj q] at hu;cases hu⟩
  ·rw [decide_eq_false (show ¬(row.length:Int) < 10 by exact Int.not_lt.mpr (ul1 (uc1 ((_:Nat):Int)) (uK 10) u0 (uK 10) u0 rfl (Int.ofNat_le.mpr (Nat.le_of_not_lt h10))))]
   exact ⟨_,rfl,ih ha h⟩
theorem cw_ok {row:List Wd} (h:∀u∈row,Cw u):RowOk row:=fun u hu=>by
 obtain ⟨h1,h2⟩:=h u hu
 induction h1 with
 | @word u h0 hs=>
  by_cases q:u=tell
  ·exact .inr (by rw [q];decide)
  ·exact .inl ⟨List.length_pos_iff.mpr h0,h2,q,hs⟩
 | op=>exact .inr (by decide)
 | cl=>exact .inr (by decide)
end
theorem join_eq {g:List Nat}:∀{row:List Wd},row≠[]->joinS g row++g=(row.map (·++g)).flatten
 | [],h=>absurd rfl h
 | [w],_=>by show w++g=(w++g)++[];rw [List.append_nil]
 | w::v::row,_=>by
  show w++g++joinS g (v::row)++g=(w++g)++((v::row).map (·++g)).flatten
  rw [List.append_assoc,join_eq (row:=v::row) (List.cons_ne_nil _ _)]
theorem strs_of:∀l:List Wd,strsOf (strD l)=some l
 | []=>rfl
 | w::l=>by show (strsOf (strD l)).map (w::·)=_;rw [strs_of l];rfl
theorem sum_le {f:Wd->Nat} {k:Nat}:∀{l:List Wd},(∀w∈l,f w<=k)->(l.map f).sum<=k*l.length
 | [],_=>Nat.zero_le _
 | w::l,h=>by
  have h1:=h w List.mem_cons_self
  have h2:=sum_le (l:=l) fun w hw=>h w (List.mem_cons_of_mem _ hw)
  rw [List.map_cons,List.sum_cons,List.length_cons,Nat.mul_succ];exact jl2 (jc4 _ _ _ _) j0 j3 j1 j2 (jA j0 j1) (jA j2 j3) rfl h1 h2
section
variable {ws:List Wd} {t:List Row} {ps:List Part} {p b:Addr} {ds:List D} {m z:Int} {s:List Nat} {row:List Wd}
theorem once_cut (tx:Tx s (endsT (ps.map (Part.row m))) [] 330000) (h0:row≠[]) (cw:∀u∈row,Cw u) (h9:row.length < 10):cutS (s++[32]++joinS [32] row++[32,59]++[32]) [] []=some (endsT (ps.map (Part.row m))++(row++[[59]]),[])/\(joinS [32] row).length<=90:=by
 have e:=join_eq (g:=[32]) h0
 constructor
 ·rw [show s++[32]++joinS [32] row++[32,59]++[32]=s++([32]++((joinS [32] row++[32])++([59]++[32]))) by simp only [List.append_assoc];rfl,e,cutS_app tx.cut,cutS_app (cutS_gaps gp32),cutS_app (cutS_row fun u hu=>(cw u hu).wo),cutS_app (cutS_one (x:=59) (by decide)),cutS_gaps gp32]
  show some (_++row++[]++_,_)=_
  rw [List.append_nil,List.append_assoc]
 ·have h1:=sum_le (l:=row) (f:=List.length ∘ (·++[32])) (k:=9) fun u hu=>by show (u++[32]).length<=9;rw [List.length_append];have:=(cw u hu).len;show _+1<=9;exact jk44 this
  have h2:=congrArg List.length e
  rw [List.length_append,List.length_flatten,List.map_map] at h2
  have h3:(joinS [32] row).length+1<=9*row.length:=Nat.le_trans (Nat.le_of_eq h2) h1
  exact jl2 (jc2 _ _) (jA j0 (jK 1)) (jM 9 j1) (jM 9 (jA j1 (jK 1))) (jM 9 (jK 10)) j0 (jK 90) rfl h3 (jm _ 9 (jA j1 (jK 1)) (jK 10) h9)
theorem once_spec (hC:CT ns defs C) (gd:Gd ws [] ps t) (hl:ps.length<=130) (hp:H p=some (.list (ps.map Part.d))) (hb:H b=some (.list ds)) (hr:RL H ds (ps.map (Part.row m))) (tx:Tx s (endsT (ps.map (Part.row m))) [] 330000) (h:∀H',H.Le H'->Q (.bool true) H'):C (n+300) f_l_once_more [.ref p,.ref b,.str s,.int z] H Q X:=by
 have ht:=gd.tb .nil
 have full:=gd.full (m:=m) .nil
 have tells:=gd.tells
 rw [List.map_nil,List.nil_append] at tells
 have hsl:=tx.len
 refine hC.intro (df:=d_l_once_more) rfl rfl ⟨_,rfl,_,iter_ref hp,told_comp hC hp ps [] gd.oks fun a ha=>?_⟩
 rw [List.nil_append,<-tells]
 have le1:=Hp.Le.set (.list (t.map rowD)) ha
 have ha1:(H.set a (.list (t.map rowD))) a=some (.list (t.map rowD)):=set_self'
 refine ⟨_,rfl,_,iter_ref (le1 _ _ hb),short_comp (R:=ps.map (Part.row m)) (le1 _ _ hb) (hr.le le1) (fun row q=>⟨q,(full row q).1⟩) (fun _ q=>by cases q) fun es hes e he=>?_⟩
 refine ⟨_,rfl,fun f hf=>⟨_,eq_nil (set_old set_self' hf) set_self',_,rfl,?_⟩⟩
 have le2:=le_set (o:=.list []) (Hp.Le.set (.list es) he) hf
 have he2:=set_old (o:=.list []) (set_self' (H:=H.set a (.list (t.map rowD))) (o:=.list es)) hf
 have le3:=le1.trans le2
 generalize ((H.set a (.list (t.map rowD))).set e (.list es)).set f (.list [])=H3 at le2 he2 le3
 cases es with
 | nil=>exact h _ le3
 | cons d0 es=>
  refine ⟨_,rfl,_,rfl,_,rfl,_,he2,Int.natCast_pos.mpr (Nat.succ_pos _),item_of (ns:=ns) (Q:=fun d H=>_) he2 (Int.emod_nonneg _ (by rw [List.length_cons];exact Int.ne_of_gt (ul1 (uc1 ((_:Nat):Int)) (uK 0) u0 (uA (uK 0) (uK 1)) (uA u0 (uK 1)) rfl (Int.natCast_nonneg _)))) (Int.emod_lt_of_pos _ (by rw [List.length_cons];exact jk80)) fun dc hdc=>?_⟩
  obtain ⟨c,row,rfl,hc,hR,h9,hh⟩:=hes dc hdc
  obtain ⟨h0,cw,_⟩:=full row hR
  have hc3:=le2 _ _ hc
  refine ⟨_,rfl,_,rfl,trees_spec hC ht row.length row (n+299) (cw_ok cw) (Nat.le_refl _) (by exact jl1 (jc1 _) (jA j0 (jK 1)) (jK 10) j0 (jK 10000) rfl h9) (by omega) (le2 _ _ ha1) hc3 fun e2 o H4 le4 ho he4=>?_⟩
  obtain ⟨hcut,hj⟩:=once_cut tx h0 cw h9
  refine ⟨_,rfl,by show _+1<=1000000;exact jl1 (jc1 _) j0 (jK 330000) (jA j0 (jK 1)) (jK 1000000) rfl hsl,trivial,_,rfl,_,row,le4 _ _ hc3,strs_of _,?_,?_,?_,?_⟩
  ·refine Nat.le_trans (sum_le (k:=9) fun u hu=>?_) (show 9*row.length<=1000000 by exact jl1 (jc1 _) (jM 9 (jA j0 (jK 1))) (jM 9 (jK 10)) (jM 9 j0) (jK 1000000) rfl (jm _ 9 (jA j0 (jK 1)) (jK 10) h9))
   have:=(cw u hu).len;show u.length+1<=9;exact jk44 this
  ·rw [List.length_append];show _+1+_<=1000000;exact jl2 (jc2 _ _) j0 (jK 330000) j1 (jK 90) (jA (jA j0 (jK 1)) j1) (jK 1000000) rfl hsl hj
  ·rw [List.length_append,List.length_append];show _+1+_+2<=1000000;exact jl2 (jc2 _ _) j0 (jK 330000) j1 (jK 90) (jA (jA (jA j0 (jK 1)) j1) (jK 2)) (jK 1000000) rfl hsl hj
  have hsl2:(s++[32]++joinS [32] row++[32,59]).length<=400000:=by
   rw [List.length_append,List.length_append,List.length_append];show _+1+_+2<=_;exact jl2 (jc2 _ _) j0 (jK 330000) j1 (jK 90) (jA (jA (jA j0 (jK 1)) j1) (jK 2)) (jK 400000) rfl hsl hj
  show vSs ns (C (n+299)) b_l_once_more_1 [some (.ref p),some (.ref b),some (.str (s++[32]++joinS [32] row++[32,59])),some (.int z),some (.ref a),some (.ref e),some (.ref c),some (.ref e2)] H4 _ _
  generalize s++[32]++joinS [32] row++[32,59]=s2 at hcut hsl2
  refine ⟨_,rfl,fun j hj=>⟨_,eq_nil (set_old he4 hj) set_self',_,rfl,?_⟩⟩
  have le5:=le_set (o:=.list []) (le3.trans le4) hj
  have he5:=set_old (o:=.list []) he4 hj
  cases o with
  | none=>exact ⟨_,rfl,refusal_of hC .part (fun Q X hX=>read_once hC gd (by exact jk5 hl) hsl2 hcut cw h9 hh (fun x p q hx=>absurd hx (ho x p q)) fun _=>hX) fun H6 le6=>⟨true,rfl,h H6 (le5.trans le6)⟩⟩
  | some x=>
   obtain ⟨p0,q0,hx⟩:=ho
   have hz1:=Tre.sz x
   have hz2:=hx.wc ht
   have hz3:=wc_le row
   refine ⟨_,rfl,read_once hC gd (by exact jk5 hl) hsl2 hcut cw h9 hh (fun y p' q' hy b6 H6 le6 hb6=>?_) fun no=>absurd hx (no x p0 q0)⟩
   obtain ⟨rfl,_⟩:=hx.uniq ht hy
   refine ⟨_,rfl,_,rfl,_,_,le6 _ _ (le5 _ _ hp),le6 _ _ he5,by rw [List.length_map];show _+1<=1000000;exact jl1 (jc1 _) j0 (jK 130) (jA j0 (jK 1)) (jK 1000000) rfl hl,fun g hg=>?_⟩
   have hm:ps.map Part.d++[x.d]=(ps++[Part.tree x]).map Part.d:=by rw [List.map_append];rfl
   refine list_spec (ps:=ps++[.tree x]) hC (by rw [List.length_append];show _+1<=_;exact jk105 hl) (fun q hq=>?_) (by rw [<-hm];exact set_old hb6 hg) (by rw [<-hm];exact set_self') fun H7 le7=>h H7 (le5.trans (le6.trans ((Hp.Le.set _ hg).trans le7)))
   rcases List.mem_append.mp hq with hq | hq
   ·exact gd.sz q hq
   ·rw [List.mem_singleton.mp hq];show szD x.d<=1000;omega
end
noncomputable abbrev Rt:Fl->Loc->Hp->Prop:=retQ fun d _=>d=.bool true
noncomputable abbrev Rx:Nat->Loc->Hp->Prop:=fun k _ H'=>(fun _ _=>False:Nat->Hp->Prop) k H'
section
variable {ws:List Wd} {t t1:List Row} {ps:List Part} {p w b:Addr} {ds es:List D} {rows rows':List (List Wd)} {m z:Int} {s v:List Nat} {ls row1 row2:List Wd}
theorem law_even (hC:CT ns defs C) (gd:Gd ws [] ps t) (hl:ps.length<=130) (hp:H p=some (.list (ps.map Part.d))) (hb:H b=some (.list ds)) (hr:RL H ds (ps.map (Part.row m))) (tx:Tx s (endsT (ps.map (Part.row m))) [] 330000) (la:La v ls) :
  vSs ns (C (n+399)) ((.assign 7 (.call f_read [(.var 5)]))::b_law_13) [some .scr,some (.ref w),some (.ref p),some (.ref b),some (.int z),some (.str s),some (.str v),none,none,none,none,none,none,none] H Rt Rx:=by
 have hsz:=gd.sz
 have h1:=tx.len
 have h2:=la.len
 refine ⟨_,rfl,read_good hC gd (by exact jk5 hl) (by decide) tx fun f H1 le1 _ hf=>?_⟩
 have fp:=le1 _ _ hp
 refine ⟨_,rfl,_,rfl,list_spec hC (by exact jk45 hl) hsz hf fp fun H2 le2=>⟨true,rfl,false,rfl,?_⟩⟩
 have le2':=le1.trans le2
 refine ⟨_,rfl,_,rfl,by show _<=1000000;exact jk106 h1 h2,refusal_of hC .part (read_open hC gd (by exact jk5 hl) tx la) fun H3 le3=>⟨false,rfl,false,rfl,?_⟩⟩
 have le3':=le2'.trans le3
 refine ⟨_,rfl,read_good hC gd (by exact jk5 hl) (by decide) tx fun g H4 le4 hg hg4=>?_⟩
 refine ⟨_,rfl,⟨_,hg4⟩,_,hg4,by rw [List.length_map];show _ < 1000000;exact jl1 (jc1 _) j0 (jK 130) (jA j0 (jK 1)) (jK 1000000) rfl hl,?_⟩
 have kp:H3.Le (H4.set g (.list (ps.map Part.d++[.str [109,111,114,101]]))):=le_set_new le4 hg
 have le5':=le3'.trans kp
 refine ⟨_,rfl,_,rfl,list_spec hC (by exact jk45 hl) hsz (kp _ _ (le3 _ _ (le2 _ _ hf))) (le5' _ _ hp) fun H6 le6=>⟨true,rfl,false,rfl,?_⟩⟩
 have le6':=le5'.trans le6
 refine ⟨_,rfl,_,rfl,_,rfl,_,rfl,by decide,by decide,once_spec hC gd hl (le6' _ _ hp) (le6' _ _ hb) (hr.le le6') tx fun H7 le7=>⟨true,rfl,false,rfl,?_⟩⟩
 have le7':=le6'.trans le7
 exact ⟨_,rfl,read_good hC gd (by exact jk5 hl) (by decide) tx fun k H8 le8 _ hk=>⟨_,rfl,list_spec hC (by exact jk45 hl) hsz hk ((le7'.trans le8) _ _ hp) fun _ _=>rfl⟩⟩
theorem slice_parts {lo hi:D} {x y:Nat} (hp:H p=some (.list (ps.map Part.d))) (h1:clipAt ps.length 0 lo=some x) (h2:clipAt ps.length ps.length hi=some y) (h:∀c,H c=none->Q (.ref c) (H.set c (.list (((ps.take y).drop x).map Part.d)))):vSlice (.ref p) lo hi H Q:=
 ⟨_,x,y,hp,by rw [List.length_map];exact h1,by rw [List.length_map];exact h2,fun c hc=>by rw [<-List.map_take,<-List.map_drop];exact h c hc⟩
theorem slice_refs {lo hi:D} {x y:Nat} (hb:H b=some (.list ds)) (hr:RL H ds rows) (h1:clipAt rows.length 0 lo=some x) (h2:clipAt rows.length rows.length hi=some y) (h:∀c es,H c=none->RL (H.set c (.list es)) es ((rows.take y).drop x)->Q (.ref c) (H.set c (.list es))):vSlice (.ref b) lo hi H Q:=
 ⟨ds,x,y,hb,by rw [hr.len];exact h1,by rw [hr.len];exact h2,fun c hc=>h c _ hc (((hr.take y).drop x).le (.set _ hc))⟩
theorem add_refs {a:Addr} (ha:H a=some (.list ds)) (hb:H b=some (.list es)) (hra:RL H ds rows) (hrb:RL H es rows') (hl:rows.length+rows'.length<=1000) (h:∀c es',H c=none->RL (H.set c (.list es')) es' (rows++rows')->Q (.ref c) (H.set c (.list es'))):vBin .add (.ref a) (.ref b) H Q:=
 ⟨ds,es,ha,hb,by rw [hra.len,hrb.len];show _<=1000000;exact jl1 (jc2 _ _) (jA j0 j1) (jK 1000) (jA j0 j1) (jK 1000000) rfl hl,fun c hc=>h c _ hc ((hra.app hrb).le (.set _ hc))⟩
theorem law_1 (hC:CT ns defs C) {k1 due:Int} {x1 x:Nat} {qs:List Part} {c:Addr} {y5 y9 y10 y11 y12:Option D} (gd:Gd ws [] qs t1) (hq:qs.length<=130) (y1:Wr t1 row1 k1 x1) (hn:Num due x) (hx:(Fits row1->Fits row2->x=x1)/\(¬(Fits row1/\Fits row2)->x=1)) (hc:H c=some (.list ds)) (hrest:∀row∈rows,∀v∈row,Cw v) (hok:RowsOk (qs.map (Part.row m)++[row1]++rows++[row2])) (hsum:qs.length+rows.length<=140)
  (hr:RL H ds (qs.map (Part.row m)++[row1]++rows++[row2])) (la:La v ls) :
  vSs ns (C (n+399)) b_law_1 [some .scr,some (.ref w),some (.ref p),some (.ref c),some (.int z),y5,some (.str v),none,none,y9,y10,y11,y12,some (.int due)] H Rt Rx:=by
 have hvl:=la.len
 refine ⟨_,rfl,_,rfl,cell_at_spec (k:=1) hC ⟨by decide,by decide,text_spec hC ?_ hc hr hok fun s H1 le1 tx=>?_⟩⟩
 ·rw [List.length_append,List.length_append,List.length_append,List.length_map];show _+1+_+1<=150;exact jl1 (jc2 _ _) (jA j0 j1) (jK 140) (jA (jA (jA j0 (jK 1)) j1) (jK 1)) (jK 150) rfl hsum
 have hsl:=tx.len
 refine ⟨_,rfl,_,rfl,cell_at_spec (k:=1) hC ⟨by decide,by decide,by decide,?_⟩⟩
 obtain ⟨j,hj,hj1⟩:∃j:Nat,cell ns 1 / 120 % 2=(j:Int)/\(j=0\/j=1):=⟨(cell ns 1 / 120 % 2).toNat,by exact Int.le_antisymm (ul1 (uc2 ((_ / (120:Int)) % (2:Int)) (((Int.toNat ((_ / (120:Int)) % (2:Int))):Nat):Int)) u0 u1 u0 u1 rfl (Int.le_of_eq (Eq.symm (Int.toNat_of_nonneg (ul1 (uc1 ((_ / (120:Int)) % (2:Int))) (uK 0) u0 (uK 0) u0 rfl (uen (_ / (120:Int)) (2:Int) rfl)))))) (ul1 (uc2 (((Int.toNat ((_ / (120:Int)) % (2:Int))):Nat):Int) ((_ / (120:Int)) % (2:Int))) u0 u1 u0 u1 rfl (Int.le_of_eq (Int.toNat_of_nonneg (ul1 (uc1 ((_ / (120:Int)) % (2:Int))) (uK 0) u0 (uK 0) u0 rfl (uen (_ / (120:Int)) (2:Int) rfl))))),by omega⟩
 show vBin .mul (.str v) (.int (cell ns 1 / 120 % 2)) H1 _
 rw [hj]
 have e59:endsT (qs.map (Part.row m)++[row1]++rows++[row2])=endsT (qs.map (Part.row m))++(row1++[59]::(endsT rows++(row2++[[59]]))):=by
  rw [ends_app,ends_app,ends_app]
  show endsT _++((row1++[[59]])++[])++endsT rows++((row2++[[59]])++[])=_
  simp only [List.append_nil,List.append_assoc];rfl
 rw [e59] at tx
 have main:∀{s2:List Nat} {L:List Wd},s2.length<=400000->Fits L->cutS (s2++[32]) [] []=some (endsT (qs.map (Part.row m))++(row1++[59]::(endsT rows++(row2++[[59]])++L)),[]) ->
   vSs ns (C (n+399)) b_law_0 [some .scr,some (.ref w),some (.ref p),some (.ref c),some (.int z),some (.str s2),some (.str v),none,none,y9,y10,y11,y12,some (.int due)] H1 Rt Rx:=fun {s2 L} hl2 hL hcut=>by
  have fits:Fits (row1++[59]::(endsT rows++(row2++[[59]])++L))↔Fits row1/\Fits row2:=by
   constructor
   ·exact fun q=>⟨fun u hu=>q u (List.mem_append_left _ hu),fun u hu=>q u (List.mem_append_right _ (List.mem_cons_of_mem _ (List.mem_append_left _ (List.mem_append_right _ (List.mem_append_left _ hu)))))⟩
   ·have h59:Fits [[59]]:=fun u hu=>by rw [List.mem_singleton.mp hu];exact Nat.le_of_ble_eq_true rfl
    exact fun q=>q.1.app (h59.app (((ends_fit hrest).app (q.2.app h59)).app hL))
  have href:∀{H:Hp},Ref C (n+147) s2 H x:=fun {H}=>read_wrong hC gd (by exact jk5 hq) hl2 hcut y1 (fun q=>hx.1 (fits.mp q).1 (fits.mp q).2) fun q=>hx.2 fun q'=>q (fits.mpr q')
  refine ⟨_,rfl,refusal_of hC hn href fun H2 le2=>⟨_,rfl,due==due,rfl,_,rfl,?_⟩⟩
  rw [beq_self_eq_true]
  exact ⟨_,rfl,refused_of hC hn href fun _ _=>rfl⟩
 rcases hj1 with rfl | rfl
 ·refine ⟨Nat.zero_le _,by decide,by decide,?_⟩
  show _/\_
  refine ⟨by show _+0<=1000000;exact jl1 (jc1 _) j0 (jK 330000) (jA j0 (jK 0)) (jK 1000000) rfl hsl,main (L:=[]) (by rw [List.length_append];show _+0<=_;exact jl1 (jc1 _) j0 (jK 330000) (jA j0 (jK 0)) (jK 400000) rfl hsl) (fun _ q=>by cases q) ?_⟩
  show cutS (s++[]++[32]) [] []=_
  rw [List.append_nil,cutS_app tx.cut,List.append_nil]
  exact cutS_gaps gp32
 ·refine ⟨by show v.length*1<=1000000;exact jl1 (jc1 _) j0 (jK 1000) (jR j0 1) (jK 1000000) rfl hvl,by decide,by decide,?_⟩
  show _/\_
  have ev:(List.replicate (((1:Nat):Int)).toNat v).flatten=v:=List.append_nil v
  rw [ev]
  refine ⟨by show _<=1000000;exact jk106 hsl hvl,main (L:=ls) (by rw [List.length_append];exact jk102 hsl hvl) (fun u hu=>(la.cw u hu).len) ?_⟩
  rw [List.append_assoc,cutS_app tx.cut,la.cut]
  simp only [List.append_assoc,List.cons_append]
theorem law_8 (hC:CT ns defs C) {y5:Option D} (hws:Ws ws) (gd:Gd ws [] ps t) (hl:ps.length<=130) (hp:H p=some (.list (ps.map Part.d))) (hw:H w=some (.list (strD ws))) (hb:H b=some (.list ds)) (hr:RL H ds (ps.map (Part.row m))) (la:La v ls) :
  vSs ns (C (n+399)) b_law_8 [some .scr,some (.ref w),some (.ref p),some (.ref b),some (.int z),y5,some (.str v),none,none,none,none,none,none,none] H Rt Rx:=by
 have full:=gd.full (m:=m) .nil
 obtain ⟨k,hk,hk2⟩:∃k:Nat,z / 2 % (((ps.map Part.d).length:Int)+1)=k/\k<=ps.length:=⟨(z / 2 % (((ps.map Part.d).length:Int)+1)).toNat,by
  rw [Int.toNat_of_nonneg (Int.emod_nonneg _ (by exact Int.ne_of_gt (ul1 (uc1 ((_:Nat):Int)) (uK 0) u0 (uA (uK 0) (uK 1)) (uA u0 (uK 1)) rfl (Int.natCast_nonneg _))))],by
  rw [List.length_map]
  have:=Int.emod_lt_of_pos (z / 2) (show (0:Int) < (ps.length:Int)+1 by exact jk107)
  omega⟩
 refine ⟨_,rfl,by decide,by decide,_,rfl,_,hp,by exact jk107,?_⟩
 show vSs ns (C (n+399)) b_law_7 [some .scr,some (.ref w),some (.ref p),some (.ref b),some (.int z),y5,some (.str v),none,none,some (.int (z / 2 % (((ps.map Part.d).length:Int)+1))),none,none,none,none] H Rt Rx
 rw [hk]
 obtain ⟨t1,g1,g2⟩:=(show Gd ws [] (ps.take k++ps.drop k) t by rw [List.take_append_drop];exact gd).cut
 have hlt:(ps.take k).length<=130:=Nat.le_trans (List.length_take_le _ _) (by exact jl2 (jc2 _ _) j0 j1 j1 (jK 130) j0 (jK 130) rfl hk2 hl)
 have hlen1:=g1.len
 have tells:=g1.tells
 rw [List.map_nil,List.nil_append] at tells
 have hsum:(ps.take k).length+(ps.drop k).length=ps.length:=by rw [<-List.length_append,List.take_append_drop]
 refine ⟨_,rfl,_,rfl,slice_parts (x:=0) (y:=k) hp rfl (clip_nat hk2) fun c hc=>⟨_,iter_ref set_self',?_⟩⟩
 rw [List.drop_zero]
 refine told_comp hC set_self' (ps.take k) [] g1.oks fun f hf=>?_
 rw [List.nil_append,<-tells]
 have le1:=le_set (o:=.list (t1.map rowD)) (Hp.Le.set (.list ((ps.take k).map Part.d)) hc) hf
 refine ⟨_,rfl,by decide,by decide,_,rfl,fun c2 hc2=>⟨_,rfl,_,_,set_self',set_old set_self' hc2,?_,fun c3 hc3=>?_⟩⟩
 ·rw [List.length_map];rw [List.length_nil,Nat.zero_add] at hlen1;show 1+_<=1000000;exact jl2 (jc2 _ _) j0 j1 j1 (jK 130) (jA (jK 1) j0) (jK 1000000) rfl hlen1 hlt
 have le2:=le_set (o:=.list ([.none]++t1.map rowD)) (le_set (o:=.list [.none]) le1 hc2) hc3
 obtain ⟨us,told,e1,htold⟩:∃us told,([.none]++t1.map rowD:List D)=us++[told]/\(told=.none\/∃r∈t1,told=rowD r):=by
  rcases List.eq_nil_or_concat t1 with e | ⟨us,r,e⟩
  ·rw [e];exact ⟨[],.none,rfl,.inl rfl⟩
  ·rw [e,List.concat_eq_append];exact ⟨[.none]++us.map rowD,rowD r,by rw [List.map_append,List.append_assoc];rfl,.inr ⟨r,List.mem_append_right _ (List.mem_singleton_self _),rfl⟩⟩
 refine ⟨1,rfl,item_last (B:=ns) (ds:=us) (x:=told) ?_ (by rw [set_self',e1])⟩
 refine wrong_spec hC hws (g1.tb .nil) (le2 _ _ hw) htold fun c4 k1 row1 x1 H4 le4 hc4 y1=>?_
 have le4':=le2.trans le4
 refine ⟨_,rfl,by decide,by decide,_,rfl,wrong_spec hC hws (g1.tb .nil) (le4' _ _ hw) (.inl rfl) fun c5 k2 row2 x2 H5 le5 hc5 y2=>?_⟩
 have le5':=le4'.trans le5
 have hb5:=le5' _ _ hb
 have hr5:=hr.le le5'
 have hlm:(ps.map (Part.row m)).length=ps.length:=List.length_map _
 have htk:((ps.map (Part.row m)).take k).drop 0=(ps.take k).map (Part.row m):=by rw [List.drop_zero,List.map_take]
 have hdk:((ps.map (Part.row m)).take (ps.map (Part.row m)).length).drop k=(ps.drop k).map (Part.row m):=by rw [List.take_length,List.map_drop]
 refine ⟨_,rfl,_,rfl,slice_refs (x:=0) (y:=k) hb5 hr5 rfl (clip_nat (by exact jk108 hk2 hlm)) fun c6 es6 hc6 r6=>⟨_,rfl,0,_,rfl,rfl,fun c7 hc7=>?_⟩⟩
 rw [htk] at r6
 have le6:=Hp.Le.set (.list es6) hc6
 have le7:=Hp.Le.set (.list [D.ref c4]) hc7
 refine add_refs (rows':=[row1]) (set_old set_self' hc7) set_self' (r6.le le7) (.cons (le7 _ _ (le6 _ _ (le5 _ _ hc4))) .nil) (by rw [List.length_map];show _+1<=1000;exact jk105 hlt) fun c8 es8 hc8 r8=>?_
 have le8:=le_set (o:=.list es8) (le6.trans le7) hc8
 refine ⟨_,rfl,_,rfl,slice_refs (x:=k) (y:=(ps.map (Part.row m)).length) (le8 _ _ hb5) (hr5.le le8) (clip_nat (by exact jk108 hk2 hlm)) rfl fun c9 es9 hc9 r9=>?_⟩
 rw [hdk] at r9
 have le9:=Hp.Le.set (.list es9) hc9
 refine add_refs (set_old set_self' hc9) set_self' (r8.le le9) r9 (by rw [List.length_append,List.length_map,List.length_map];show _+1+_<=1000;exact jl2 (jc3 _ _ _) (jA j0 j1) j2 j2 (jK 130) (jA (jA j0 (jK 1)) j1) (jK 1000) rfl (Nat.le_of_eq hsum) hl) fun c10 es10 hc10 r10=>?_
 have le10:=le_set (o:=.list es10) (le8.trans le9) hc10
 refine ⟨_,rfl,0,_,rfl,rfl,fun c11 hc11=>?_⟩
 have le11:=Hp.Le.set (.list [D.ref c5]) hc11
 refine add_refs (rows':=[row2]) (set_old set_self' hc11) set_self' (r10.le le11) (.cons (le11 _ _ (le10 _ _ hc5)) .nil) (by rw [List.length_append,List.length_append,List.length_map,List.length_map];show _+1+_+1<=1000;exact jl2 (jc3 _ _ _) (jA j0 j1) j2 j2 (jK 130) (jA (jA (jA j0 (jK 1)) j1) (jK 1)) (jK 1000) rfl (Nat.le_of_eq hsum) hl) fun c12 es12 hc12 r12=>?_
 have up:∀{v:Wd},Cw v->Wo v/\v.length<=16:=fun h=>⟨h.wo,Nat.le_trans h.len (by decide)⟩
 have hpart:∀{qs:List Part},(∀q∈qs,q∈ps)->∀row∈qs.map (Part.row m),(∀v∈row,Cw v)/\row.length<=99:=fun hq row h=>by
  obtain ⟨q,hq',rfl⟩:=List.mem_map.mp h
  exact (full _ (List.mem_map_of_mem (hq q hq'))).2
 have hok:RowsOk ((ps.take k).map (Part.row m)++[row1]++(ps.drop k).map (Part.row m)++[row2]):=fun row h=>by
  have pt:∀{qs:List Part},(∀q∈qs,q∈ps)->row∈qs.map (Part.row m)->row.length<=110/\∀v∈row,Wo v/\v.length<=16:=fun hq h=>⟨by have:=(hpart hq row h).2;exact jk43 this,fun v hv=>up ((hpart hq row h).1 v hv)⟩
  rcases List.mem_append.mp h with h | h
  ·rcases List.mem_append.mp h with h | h
   ·rcases List.mem_append.mp h with h | h
    ·exact pt (fun q=>List.mem_of_mem_take) h
    ·rw [List.mem_singleton.mp h];exact y1.ok
   ·exact pt (fun q=>List.mem_of_mem_drop) h
  ·rw [List.mem_singleton.mp h];exact y2.ok
 have fin:=fun {due:Int} {x:Nat} (hn:Num due x) (hx)=>law_1 (n:=n) (w:=w) (p:=p) (z:=z) (y5:=y5) (y9:=some (.int k)) (y10:=some (.ref f)) (y11:=some (.tup [.ref c4,.int k1])) (y12:=some (.tup [.ref c5,.int k2])) hC g1 hlt y1 hn hx (set_self' (H:=((((((H5.set c6 (.list es6)).set c7 (.list [D.ref c4])).set c8 (.list es8)).set c9 (.list es9)).set c10 (.list es10)).set c11 (.list [D.ref c5]))) (a:=c12) (o:=.list es12)) (fun row h=>(hpart (fun q=>List.mem_of_mem_drop) row h).1) hok (by rw [List.length_map];exact jl2 (jc3 _ _ _) (jA j0 j1) j2 j2 (jK 130) (jA j0 j1) (jK 140) rfl (Nat.le_of_eq hsum) hl) r12 la
 refine ⟨_,rfl,1,_,rfl,rfl,?_⟩
 refine ⟨_,rfl,1,_,rfl,rfl,k2==4,rfl,_,rfl,?_⟩
 cases h4:k2==4 with
 | true=>exact fin .word ⟨fun _ q=>absurd q (y2.fit.1 (eq_of_beq h4)),fun _=>rfl⟩
 | false=>
  have n4:k2≠4:=beq_eq_false_iff_ne.mp h4
  refine fin y1.num ⟨fun _ _=>rfl,fun q=>?_⟩
  by_cases h1:k1=4
  ·subst h1;cases y1;rfl
  ·exact absurd ⟨y1.fit.2 h1,y2.fit.2 n4⟩ q
noncomputable def nils:List (List Nat):=[[],[32],[10],[32,10,32]]
theorem nils_cut:∀s∈nils,cutS s [] []=some ([],[])/\s.length<=330000:=by decide
theorem law_14 (hC:CT ns defs C) (hws:Ws ws) (gd:Gd ws [] ps t) (hl:ps.length<=130) (hp:H p=some (.list (ps.map Part.d))) (hw:H w=some (.list (strD ws))) (hb:H b=some (.list ds)) (hr:RL H ds (ps.map (Part.row m))) (tx:Tx s (endsT (ps.map (Part.row m))) [] 330000) (la:La v ls) :
  vSs ns (C (n+399)) b_law_14 [some .scr,some (.ref w),some (.ref p),some (.ref b),some (.int z),some (.str s),some (.str v),none,none,none,none,none,none,none] H Rt Rx:=by
 refine ⟨_,rfl,by decide,z % 2==0,rfl,_,rfl,?_⟩
 cases z % 2==0 with
 | true=>exact law_even hC gd hl hp hb hr tx la
 | false=>exact law_8 hC hws gd hl hp hw hb hr la
theorem law_15 (hC:CT ns defs C) (hws:Ws ws) (gd:Gd ws [] ps t) (hl:ps.length<=130) (hp:H p=some (.list (ps.map Part.d))) (hw:H w=some (.list (strD ws))) (hb:H b=some (.list ds)) (hr:RL H ds (ps.map (Part.row m))) (tx:Tx s (endsT (ps.map (Part.row m))) [] 330000) :
  vSs ns (C (n+399)) b_law_15 [some .scr,some (.ref w),some (.ref p),some (.ref b),some (.int z),some (.str s),none,none,none,none,none,none,none,none] H Rt Rx:=by
 obtain ⟨s0,s6,s7,w3⟩:=w3_of (ns:=ns) hws (gd.tb .nil) hw
 have l6:=w3.c6.le
 have l7:=w3.c7.le
 have hle:=Hp.Le.refl H
 refine ⟨_,rfl,w3.i6 (Q:=fun d H=>_) hle ⟨_,rfl,w3.i6 (Q:=fun d H=>_) hle ⟨by show 12+_<=1000000;exact jl1 (jc1 _) j0 (jK 8) (jA (jK 12) j0) (jK 1000000) rfl l6,_,rfl,w3.i7 (Q:=fun d H=>_) hle ⟨by show _+1<=1000000;exact jl1 (jc1 _) j0 (jK 8) (jA j0 (jK 1)) (jK 1000000) rfl l7,by rw [List.length_append];show (_+1)*100<=1000000;exact jl1 (jc1 _) (jM 100 j0) (jM 100 (jK 8)) (jR (jA j0 (jK 1)) 100) (jK 1000000) rfl (jm _ 100 j0 (jK 8) l7),by decide,by decide,fun g hg=>⟨_,rfl,by decide,by decide,by decide,item_of (ns:=ns) (Q:=fun d H=>_) set_self' (by exact ul1 (uc1 ((_ / (2:Int)) % (5:Int))) (uK 0) u0 (uK 0) u0 rfl (uen (_ / (2:Int)) (5:Int) rfl)) (by show _ < (5:Int);exact ul1 (uc1 ((_ / (2:Int)) % (5:Int))) (uA u0 (uK 1)) (uK 5) (uA u0 (uK 1)) (uK 5) rfl (uel (_ / (2:Int)) (5:Int) rfl)) fun dd hd=>?_⟩⟩⟩⟩⟩
 have le1:=Hp.Le.set (.list [.str s6,.str ([116,101,108,108,32,108,101,102,116,32,55,32]++s6),.str [116,101,108,108],.str [40],.str (List.replicate (100:Int).toNat (s7++[32])).flatten]) hg
 have fin:∀{v:List Nat} {ls:List Wd},dd=.str v->La ([32]++v) ls->_:=fun {v ls} e la=>law_14 (n:=n) (z:=z) hC hws gd hl (le1 _ _ hp) (le1 _ _ hw) (le1 _ _ hb) (hr.le le1) tx la
 have len:∀{v:List Nat} {ls:List Wd},La ([32]++v) ls->1+v.length<=1000000:=fun {v ls} la=>by have:=la.len;rw [List.length_append] at this;exact Nat.le_trans this (by decide)
 have e1:∀u:Wd,u++[32]=([u].map (·++[32])).flatten++[]:=fun u=>by show _=(u++[32])++[]++[];rw [List.append_nil,List.append_nil]
 have one:∀{u:Wd},Cw u->La ([32]++u) [u]:=fun {u} hu=>La.of [] (fun _ q=>by cases q) (e1 u) (by simp) (fun y hy=>by rw [List.mem_singleton.mp hy];exact hu) (Nat.le_trans hu.len (by decide)) (Nat.le_of_ble_eq_true rfl)
 simp only [List.mem_cons,List.not_mem_nil,or_false] at hd
 rcases hd with rfl | rfl | rfl | rfl | rfl
 ·have la:=one w3.c6.cw
  exact ⟨len la,fin rfl la⟩
 ·have la:La ([32]++([116,101,108,108,32,108,101,102,116,32,55,32]++s6)) [tell,leftK,[55],s6]:=La.of [] (fun _ q=>by cases q) (by rw [List.append_nil];show _=[116,101,108,108,32,108,101,102,116,32,55,32]++((s6++[32])++[]);rw [List.append_nil,List.append_assoc]) (by simp) (cw_more tell_cw (cw_more left_cw (cw_two (cw_of (by decide)) w3.c6.cw))) (by rw [List.length_append];show 12+_<=999;exact jl1 (jc1 _) j0 (jK 8) (jA (jK 12) j0) (jK 999) rfl l6) (Nat.le_of_ble_eq_true rfl)
  exact ⟨len la,fin rfl la⟩
 ·have la:=one tell_cw
  exact ⟨len la,fin rfl la⟩
 ·have la:=one op_cw
  exact ⟨len la,fin rfl la⟩
 ·have hrep:(List.replicate (100:Int).toNat (s7++[32])).flatten=((List.replicate 100 s7).map (·++[32])).flatten:=by rw [List.map_replicate];rfl
  have la:La ([32]++(List.replicate (100:Int).toNat (s7++[32])).flatten) (List.replicate 100 s7):=La.of [32] gp32 (by rw [hrep]) (by simp) (cw_rep w3.c7.cw 100) (by
   rw [hrep,List.length_flatten,List.map_map]
   have:=sum_le (l:=List.replicate 100 s7) (f:=List.length ∘ (·++[32])) (k:=9) fun u hu=>by rw [List.eq_of_mem_replicate hu];show (s7++[32]).length<=9;rw [List.length_append];show _+1<=9;exact jk44 l7
   rw [List.length_replicate] at this
   exact Nat.le_trans this (by decide)) (by rw [List.length_replicate];decide)
  exact ⟨len la,fin rfl la⟩
end
theorem law_spec (hC:CT ns defs C):C (n+400) f_law [.scr] (fun _=>none) (fun d _=>d=.bool true) (fun _ _=>False):=by
 refine hC.intro (df:=d_law) rfl rfl ?_
 refine ⟨_,rfl,cell_at_spec (k:=0) hC (words_by_spec hC fun w ws H1 hws _ hw=>?_)⟩
 refine ⟨_,rfl,cells_spec2 (lo:=3) (hi:=33) hC (by decide) (by decide) fun c cs hcs hc=>⟨_,rfl,parts_by_spec hC hws (by exact jl2 (jc2 _ ((33:Nat) - (3:Nat))) j0 j1 j1 (jK 33) j0 (jK 100) rfl hcs (Nat.sub_le (33:Nat) (3:Nat))) set_self' (set_old hw hc) fun p ps t H2 gd hl le2 _ hp=>?_⟩⟩
 have hw2:=le2 _ _ (set_old hw hc)
 refine ⟨_,rfl,_,rfl,cell_at_spec (k:=1) hC ⟨by decide,?_⟩⟩
 generalize cell ns 1 % 3=m
 refine rows_by_spec hC gd (by exact jl1 (jc1 _) j0 (jK 130) j0 (jK 800) rfl hl) hp fun b ds H3 le3 _ hb hr=>?_
 refine ⟨_,rfl,cell_at_spec (k:=2) hC ?_⟩
 generalize cell ns 2=z
 have full:=gd.full (m:=m) .nil
 refine ⟨_,rfl,_,rfl,cell_at_spec (k:=1) hC ⟨by decide,by decide,text_spec hC (by rw [List.length_map];exact jl1 (jc1 _) j0 (jK 130) j0 (jK 150) rfl hl) hb hr (fun row q=>⟨by have:=(full row q).2.2;exact jk43 this,fun v hv=>⟨((full row q).2.1 v hv).wo,Nat.le_trans ((full row q).2.1 v hv).len (by decide)⟩⟩) fun s H4 le4 tx=>?_⟩⟩
 have le4':=le3.trans le4
 refine ⟨_,rfl,fun f hf=>⟨_,eq_nil (set_old (le4 _ _ hb) hf) set_self',_,rfl,?_⟩⟩
 have le5:=le_set (o:=.list []) le4 hf
 have le5':=le3.trans le5
 cases hds:ds with
 | cons d0 ds0=>subst hds;exact law_15 hC hws gd hl (le5' _ _ hp) (le5' _ _ hw2) (le5 _ _ hb) (hr.le le5) tx
 | nil=>
  subst hds
  have e0:ps.map (Part.row m)=[]:=by cases hq:ps.map (Part.row m) with
   | nil=>rfl
   | cons r rs=>rw [hq] at hr;cases hr
  refine fun g hg=>⟨_,rfl,by decide,by decide,by decide,item_of (ns:=ns) (l:=strD nils) (Q:=fun d H=>_) set_self' (by exact ul1 (uc1 ((_ / (2:Int)) % (4:Int))) (uK 0) u0 (uK 0) u0 rfl (uen (_ / (2:Int)) (4:Int) rfl)) (by show _ < (4:Int);exact ul1 (uc1 ((_ / (2:Int)) % (4:Int))) (uA u0 (uK 1)) (uK 4) (uA u0 (uK 1)) (uK 4) rfl (uel (_ / (2:Int)) (4:Int) rfl)) fun dd hd=>?_⟩
  obtain ⟨s',hs',rfl⟩:=List.mem_map.mp hd
  have le6:=le_set (o:=.list (strD nils)) le5 hg
  exact law_15 hC hws gd hl ((le3.trans le6) _ _ hp) ((le3.trans le6) _ _ hw2) (le6 _ _ hb) (hr.le le6) (by rw [e0];exact ⟨(nils_cut s' hs').1,(nils_cut s' hs').2⟩)
end Mine.L
set_option maxRecDepth 1000000
set_option maxHeartbeats 40000000
open PySem PyProof.Rows PySem.W
theorem PySem.Challenge.cw_uf040015_12_holds : PySem.Challenge.rw_uf040015_12.Holds := by
 refine holds_law Mine.L.said fun said=>?_
 refine holds_open (q:=Mine.L.pw) (loose:=[]) (Xt:=fun s=>xlAt Mine.L.pw [] s&&recOk [] s) (XP:=XL Mine.L.pw []) (Yf:=Hook.obs Mine.L.hk) (Ya:=Hook.val Mine.L.hk) (YP:=Hook.says Mine.L.hk) (N:=9000) Mine.L.left (Hook.of Mine.L.hk) (Hook.keeps Mine.L.hk)
  (fun s e=>xl_of s (Bool.and_eq_true_iff.mp e).1) XL.keeps (by rfl) (by rfl) (by rfl) (fun s e=>recFacts_of (Bool.and_eq_true_iff.mp e).2) (by rfl) said (by decide+kernel) ⟨rfl,rfl,rfl,rfl,rfl,by decide+kernel⟩ ?hw ?hc
 case hw=>w_witness2
 case hc=>
  intro w s₀ s₁ mg mb G Y a o pm cd doc dV kV ho hdat hcd hD hmg hg args vals as hpre hlay hrd hwl hlo
  have KX:(Mine.L.K w.params).In s₁.heap:=Y
  have T0:=G.T
  have TE:=G.TE
  have hmg':mg (Str.ofString "law")=some (.ref a):=hmg
  clear Y hdat hcd hD hmg G
  wrow_args hpre hlay hrd hwl hlo
  rename_i ns hs hlay0 hL1 hr1 hl2 as1 as2 sa us as3 hL ra wl r0 hI hr2 hc1 hc2
  have hscr:=Mine.script_at wl hL hI hc1
  have t0:=Mine.fns_eq T0 (T:=Mine.L.tab) (defs:=Mine.L.defs) (by decide+kernel)
  have t1:=Mine.consts_eq KX (T:=Mine.L.tab) (by kernel_rfl)
  have t2:=Mine.clss_eq KX (T:=Mine.L.tab) (cl:=[(0,24),(1,37),(2,49),(3,61),(4,73),(5,85),(6,97)]) (by kernel_rfl)
  have t3:=Mine.blt_eq KX (by kernel_rfl)
  have t4:=Mine.excs_eq KX (cl:=[(0,24),(1,37),(2,49),(3,61),(4,73),(5,85),(6,97)]) (by kernel_rfl)
  have t5:=Mine.excx_eq KX (cl:=[(0,24),(1,37),(2,49),(3,61),(4,73),(5,85),(6,97)]) (by kernel_rfl)
  obtain ⟨c,hcm,hcr⟩:=Mine.rd_eq (q:=Mine.L.pw) (T:=Mine.L.tab) (defs:=Mine.L.defs) (l:=looseW Mine.L.pw []) (by decide+kernel)
  obtain ⟨Cr,Nr,mr,hcg,hcP⟩:=TE c hcm
  have hrdr:=Mine.rd_of (mb:=mb) (scr:=sa) (ns:=ns) (cl:=[(0,24),(1,37),(2,49),(3,61),(4,73),(5,85),(6,97)]) hcP hcg hcr (fun h=>by cases h)
  have hB:=Mine.bok_of (prog:=PySem.Challenge.rw_uf040015_12.row.prog) (w:=w) (mr:=mr) T0 KX t1 t2 t3 t0 t5 (fun x t hx=>by cases hx) (fun _=>hrdr) (fun _=>hrdr) hscr
  have hX:=Mine.xok_of (scr:=sa) (ns:=ns) (mg:=mg) (mb:=mb) (mr:=mr) KX t2 t4
  have hC:=Mine.ct_of T0 t0 (Mine.meths_of hcP t0 hcr) hB hX
  have ha:Mine.faOf Mine.L.tab mg mr 45=a:=by
   show (match mg (Str.ofString "law") with | some (.ref a)=>a | _=>0)=a
   rw [hmg']
  refine wpAny_mono (ha ▸ Mine.call_end (n:=400) (by decide) (Mine.L.law_spec (n:=0) hC)) (fun v s' hp=>?_) (fun _ _ hp=>hp.elim)
  obtain ⟨rfl,h1,h2,h3⟩:=hp
  exact Mine.good_of h1 h2 (h3.trans hg)
