/- The types and the functions of the seat, by name. Printed by gen_tab.py. -/
import Derived.Test.YtmdefiphdgcijaaDoorVmStFun
import Derived.Test.YtmdefiphdgcijaaDoorChecked
set_option linter.unusedVariables false
namespace Go.Proofs.YtmdefiphdgcijaaDoor
def b9g:List (Nat×Ty×Nat×Nat) :=
 [(2,(.int .i64),0,0),
  (3,(.int .i64),0,0),
  (4, .bool,0,0),
  (5,(.int .u8),0,0),
  (9, .str,0,0),
  (12,(.int .u64),0,0),
  (23,(.st .sig),0,0),
  (24,(.slice (.slice .bool)),24,37),
  (25,(.slice (.slice (.slice (.int .i64)))),24,38),
  (27,(.st .automaton),0,0),
  (33,(.slice .str),16,9),
  (37,(.slice .bool),1,4),
  (38,(.slice (.slice (.int .i64))),24,39),
  (39,(.slice (.int .i64)),8,2),
  (62,(.slice (.int .u8)),1,5),
  (75,(.int .u64),0,0),
  (91,(.int .u64),0,0)]
def d6t:List (Nat×Ty) :=
 [(43,(.st .automaton)),(79,(.int .u8))]
def d0d:List (Nat×Ty×Ty):=[]
abbrev e9d:Nat:=2
abbrev d4s:Nat:=4
abbrev d3h:Nat:=9
abbrev e7i:Nat:=37
abbrev e2f:Nat:=38
abbrev e4u:Nat:=39
noncomputable abbrev a0k:Program:=Tryd.prog
theorem c7e(c:Nat→List Arg→Option (Vc×List TV))(wr own:List Nat)(oc:Nat→List Arg→Option (Vc×List TV))(mk:Nat→Option b7v)(cl:Nat→Option c2o)(ro:List Nat)(tk:Nat→List Bool)(sk:Nat→Option SK)(sc:Nat→List Arg→List (List TV)→Option (Vc×List TV×List (List TV)))(nc:Nat→List Arg→Option (Vc×e0j)):((b9g.all fun r=>b2w a0k (Env.mk b9g d6t c wr own oc mk cl ro tk sk sc d0d nc) r.1 r.2.1 r.2.2.1 r.2.2.2)&&d0d.all fun r=>d7r a0k (Env.mk b9g d6t c wr own oc mk cl ro tk sk sc d0d nc) r.1 r.2.1 r.2.2)=true:=by kernel_rfl
theorem b9c:a0k.follows .mixedOrders=true:=Checked.mixed Tryd.checked
def a0m(f:Func):Code:=match f.body with
 | some c=>c
 | none => .skip
abbrev a3w:Nat:=3
noncomputable abbrev a2b:Func:=Tryd.f3
theorem a8v:a0k.funcs[a3w]?=some a2b:=Tryd.func3
theorem b4r:a2b.body=some (a0m a2b):=by kernel_rfl
abbrev a9y:Nat:=4
noncomputable abbrev a3o:Func:=Tryd.f4
theorem b4a:a0k.funcs[a9y]?=some a3o:=Tryd.func4
theorem c1j:a3o.body=some (a0m a3o):=by kernel_rfl
abbrev a9w:Nat:=5
noncomputable abbrev a3m:Func:=Tryd.f5
theorem b3x:a0k.funcs[a9w]?=some a3m:=Tryd.func5
theorem c1g:a3m.body=some (a0m a3m):=by kernel_rfl
abbrev b0y:Nat:=6
noncomputable abbrev a4c:Func:=Tryd.f6
theorem b5n:a0k.funcs[b0y]?=some a4c:=Tryd.func6
theorem c3t:a4c.body=some (a0m a4c):=by kernel_rfl
abbrev b5g:Nat:=7
noncomputable abbrev a1u:Func:=Tryd.f7
theorem b3z:a0k.funcs[b5g]?=some a1u:=Tryd.func7
theorem c1i:a1u.body=some (a0m a1u):=by kernel_rfl
abbrev a9x:Nat:=8
noncomputable abbrev a3n:Func:=Tryd.f8
theorem b3y:a0k.funcs[a9x]?=some a3n:=Tryd.func8
theorem c1h:a3n.body=some (a0m a3n):=by kernel_rfl
abbrev b5i:Nat:=9
noncomputable abbrev a6e:Func:=Tryd.f9
theorem b9w:a0k.funcs[b5i]?=some a6e:=Tryd.func9
theorem c8s:a6e.body=some (a0m a6e):=by kernel_rfl
abbrev b3p:Nat:=10
noncomputable abbrev a5g:Func:=Tryd.f10
theorem b8k:a0k.funcs[b3p]?=some a5g:=Tryd.func10
theorem c8a:a5g.body=some (a0m a5g):=by kernel_rfl
abbrev b6p:Nat:=11
noncomputable abbrev a6x:Func:=Tryd.f11
theorem c1s:a0k.funcs[b6p]?=some a6x:=Tryd.func11
theorem d2f:a6x.body=some (a0m a6x):=by kernel_rfl
abbrev c0x:Nat:=12
noncomputable abbrev a9a:Func:=Tryd.f12
theorem c7j:a0k.funcs[c0x]?=some a9a:=Tryd.func12
theorem d5f:a9a.body=some (a0m a9a):=by kernel_rfl
abbrev b6n:Nat:=13
noncomputable abbrev a6v:Func:=Tryd.f13
theorem c1q:a0k.funcs[b6n]?=some a6v:=Tryd.func13
theorem d2d:a6v.body=some (a0m a6v):=by kernel_rfl
abbrev c2f:Nat:=14
noncomputable abbrev d5q:Func:=Tryd.f14
theorem d3i:a0k.funcs[c2f]?=some d5q:=Tryd.func14
abbrev b7z:Nat:=15
noncomputable abbrev a7m:Func:=Tryd.f15
theorem c3q:a0k.funcs[b7z]?=some a7m:=Tryd.func15
theorem d3j:a7m.body=some (a0m a7m):=by kernel_rfl
abbrev b3m:Nat:=16
noncomputable abbrev a5d:Func:=Tryd.f16
theorem b8g:a0k.funcs[b3m]?=some a5d:=Tryd.func16
theorem c7w:a5d.body=some (a0m a5d):=by kernel_rfl
abbrev a9h:Nat:=17
noncomputable abbrev a3a:Func:=Tryd.f17
theorem b2h:a0k.funcs[a9h]?=some a3a:=Tryd.func17
theorem b9y:a3a.body=some (a0m a3a):=by kernel_rfl
abbrev b5d:Nat:=18
noncomputable abbrev c6c:Func:=Tryd.f18
theorem c3p:a0k.funcs[b5d]?=some c6c:=Tryd.func18
abbrev c0u:Nat:=19
noncomputable abbrev a8y:Func:=Tryd.f19
theorem c7h:a0k.funcs[c0u]?=some a8y:=Tryd.func19
theorem d5d:a8y.body=some (a0m a8y):=by kernel_rfl
abbrev b5e:Nat:=20
noncomputable abbrev a6b:Func:=Tryd.f20
theorem b9t:a0k.funcs[b5e]?=some a6b:=Tryd.func20
theorem c8p:a6b.body=some (a0m a6b):=by kernel_rfl
abbrev b2d:Nat:=21
noncomputable abbrev a4t:Func:=Tryd.f21
theorem b7d:a0k.funcs[b2d]?=some a4t:=Tryd.func21
theorem c5t:a4t.body=some (a0m a4t):=by kernel_rfl
abbrev b8p:Nat:=22
noncomputable abbrev a2l:Func:=Tryd.f22
theorem b7g:a0k.funcs[b8p]?=some a2l:=Tryd.func22
theorem c5w:a2l.body=some (a0m a2l):=by kernel_rfl
abbrev b6a:Nat:=23
noncomputable abbrev a2a:Func:=Tryd.f23
theorem b4p:a0k.funcs[b6a]?=some a2a:=Tryd.func23
theorem c2t:a2a.body=some (a0m a2a):=by kernel_rfl
abbrev b2e:Nat:=24
noncomputable abbrev a4u:Func:=Tryd.f24
theorem b7e:a0k.funcs[b2e]?=some a4u:=Tryd.func24
theorem c5u:a4u.body=some (a0m a4u):=by kernel_rfl
abbrev b0n:Nat:=25
noncomputable abbrev a3y:Func:=Tryd.f25
theorem b4o:a0k.funcs[b0n]?=some a3y:=Tryd.func25
theorem c2s:a3y.body=some (a0m a3y):=by kernel_rfl
abbrev b8b:Nat:=26
noncomputable abbrev a7o:Func:=Tryd.f26
theorem c3s:a0k.funcs[b8b]?=some a7o:=Tryd.func26
theorem d3l:a7o.body=some (a0m a7o):=by kernel_rfl
abbrev c0w:Nat:=27
noncomputable abbrev a8z:Func:=Tryd.f27
theorem c7i:a0k.funcs[c0w]?=some a8z:=Tryd.func27
theorem d5e:a8z.body=some (a0m a8z):=by kernel_rfl
abbrev b5h:Nat:=28
noncomputable abbrev a6d:Func:=Tryd.f28
theorem b9v:a0k.funcs[b5h]?=some a6d:=Tryd.func28
theorem c8r:a6d.body=some (a0m a6d):=by kernel_rfl
abbrev b5c:Nat:=30
noncomputable abbrev a6a:Func:=Tryd.f30
theorem b9s:a0k.funcs[b5c]?=some a6a:=Tryd.func30
theorem c8o:a6a.body=some (a0m a6a):=by kernel_rfl
abbrev b6m:Nat:=31
noncomputable abbrev a6u:Func:=Tryd.f31
theorem c1p:a0k.funcs[b6m]?=some a6u:=Tryd.func31
theorem d2c:a6u.body=some (a0m a6u):=by kernel_rfl
abbrev b8a:Nat:=32
noncomputable abbrev a7n:Func:=Tryd.f32
theorem c3r:a0k.funcs[b8a]?=some a7n:=Tryd.func32
theorem d3k:a7n.body=some (a0m a7n):=by kernel_rfl
abbrev b6o:Nat:=36
noncomputable abbrev a6w:Func:=Tryd.f36
theorem c1r:a0k.funcs[b6o]?=some a6w:=Tryd.func36
theorem d2e:a6w.body=some (a0m a6w):=by kernel_rfl
abbrev b3n:Nat:=37
noncomputable abbrev a5e:Func:=Tryd.f37
theorem b8h:a0k.funcs[b3n]?=some a5e:=Tryd.func37
theorem c7x:a5e.body=some (a0m a5e):=by kernel_rfl
abbrev c0v:Nat:=38
noncomputable abbrev a2r:Func:=Tryd.f38
theorem b8j:a0k.funcs[c0v]?=some a2r:=Tryd.func38
theorem c7z:a2r.body=some (a0m a2r):=by kernel_rfl
abbrev b7s:Nat:=39
noncomputable abbrev a2f:Func:=Tryd.f39
theorem b5p:a0k.funcs[b7s]?=some a2f:=Tryd.func39
theorem c3v:a2f.body=some (a0m a2f):=by kernel_rfl
abbrev b3o:Nat:=40
noncomputable abbrev a5f:Func:=Tryd.f40
theorem b8i:a0k.funcs[b3o]?=some a5f:=Tryd.func40
theorem c7y:a5f.body=some (a0m a5f):=by kernel_rfl
abbrev b0z:Nat:=41
noncomputable abbrev a4d:Func:=Tryd.f41
theorem b5o:a0k.funcs[b0z]?=some a4d:=Tryd.func41
theorem c3u:a4d.body=some (a0m a4d):=by kernel_rfl
abbrev b5f:Nat:=47
noncomputable abbrev a6c:Func:=Tryd.f47
theorem b9u:a0k.funcs[b5f]?=some a6c:=Tryd.func47
theorem c8q:a6c.body=some (a0m a6c):=by kernel_rfl
abbrev b8q:Nat:=48
noncomputable abbrev a2m:Func:=Tryd.f48
theorem b7h:a0k.funcs[b8q]?=some a2m:=Tryd.func48
theorem c5x:a2m.body=some (a0m a2m):=by kernel_rfl
abbrev b2f:Nat:=49
noncomputable abbrev a4v:Func:=Tryd.f49
theorem b7f:a0k.funcs[b2f]?=some a4v:=Tryd.func49
theorem c5v:a4v.body=some (a0m a4v):=by kernel_rfl
end Go.Proofs.YtmdefiphdgcijaaDoor
