/- The types and the functions of the seat, by name. Printed by gen_tab.py. -/
import Derived.Test.YtlaoejdeanljgaaVmStFun
import Derived.Test.YtlaoejdeanljgaaChecked
set_option linter.unusedVariables false
namespace Go.Proofs.Ytlaoejdeanljgaa
def c9k:List (Nat×Ty×Nat×Nat) :=
 [(2,(.int .i64),0,0),
  (3,(.int .i64),0,0),
  (4, .bool,0,0),
  (5,(.int .u8),0,0),
  (9, .str,0,0),
  (12,(.int .u64),0,0),
  (22,(.slice (.int .u8)),1,5),
  (25,(.st .sig),0,0),
  (26,(.slice (.st .expr)),40,28),
  (28,(.st .expr),0,0),
  (29,(.slice (.st .prog)),80,31),
  (31,(.st .prog),0,0),
  (32,(.slice (.int .i64)),8,2),
  (38,(.st .sig),0,0),
  (39,(.slice (.st .expr)),40,41),
  (41,(.st .expr),0,0),
  (42,(.slice (.st .prog)),80,44),
  (44,(.st .prog),0,0),
  (53, .ptr,0,0),
  (89,(.int .u64),0,0),
  (91,(.st .l00Src),0,0),
  (95,(.st .l06Gen),0,0),
  (116,(.int .u64),0,0),
  (118,(.st .l01Gen),0,0)]
def f5o:List (Nat×Ty) :=
 [(53,(.st .l00Src)),(63,(.st .prog)),(66,(.st .expr)),(93,(.st .l06Gen)),(117,(.st .l01Gen)),(143,(.int .u8))]
def e3z:List (Nat×Ty×Ty):=[]
abbrev f6u:Nat:=2
abbrev g1q:Nat:=4
abbrev g3p:Nat:=28
abbrev g3q:Nat:=31
abbrev g6h:Nat:=32
abbrev g5d:Nat:=38
abbrev g3r:Nat:=44
noncomputable abbrev prog:Program:=Try.prog
theorem d8s(c:Nat→List Arg→Option (Vc×List TV))(wr own:List Nat)(oc:Nat→List Arg→Option (Vc×List TV))(mk:Nat→Option c7a)(cl:Nat→Option c6z)(ro:List Nat)(tk:Nat→List Bool)(sk:Nat→Option SK)(sc:Nat→List Arg→List (List TV)→Option (Vc×List TV×List (List TV)))(nc:Nat→List Arg→Option (Vc×g1p)):((c9k.all fun r=>c1p prog (Env.mk c9k f5o c wr own oc mk cl ro tk sk sc e3z nc) r.1 r.2.1 r.2.2.1 r.2.2.2)&&e3z.all fun r=>f7l prog (Env.mk c9k f5o c wr own oc mk cl ro tk sk sc e3z nc) r.1 r.2.1 r.2.2)=true:=by kernel_rfl
theorem c9f:prog.follows .mixedOrders=true:=Checked.mixed Try.checked
def a0k(f:Func):Code:=match f.body with
 | some c=>c
 | none => .skip
abbrev a7d:Nat:=4
noncomputable abbrev a4a:Func:=Try.f4
theorem b8x:prog.funcs[a7d]?=some a4a:=Try.func4
theorem c7c:a4a.body=some (a0k a4a):=by kernel_rfl
abbrev b6z:Nat:=7
noncomputable abbrev e9z:Func:=Try.f7
theorem e5o:prog.funcs[b6z]?=some e9z:=Try.func7
abbrev c2s:Nat:=8
noncomputable abbrev a7g:Func:=Try.f8
theorem c7y:prog.funcs[c2s]?=some a7g:=Try.func8
theorem e0h:a7g.body=some (a0k a7g):=by kernel_rfl
abbrev c2f:Nat:=10
noncomputable abbrev b1t:Func:=Try.f10
theorem b9u:prog.funcs[c2f]?=some b1t:=Try.func10
theorem e9k:b1t.body=some (a0k b1t):=by kernel_rfl
abbrev d1u:Nat:=11
noncomputable abbrev b4x:Func:=Try.f11
theorem d8y:prog.funcs[d1u]?=some b4x:=Try.func11
theorem f3h:b4x.body=some (a0k b4x):=by kernel_rfl
abbrev a8u:Nat:=12
noncomputable abbrev a6a:Func:=Try.f12
theorem a6f:prog.funcs[a8u]?=some a6a:=Try.func12
theorem d0i:a6a.body=some (a0k a6a):=by kernel_rfl
abbrev b3s:Nat:=13
noncomputable abbrev a4n:Func:=Try.f13
theorem b6h:prog.funcs[b3s]?=some a4n:=Try.func13
theorem c6e:a4n.body=some (a0k a4n):=by kernel_rfl
abbrev c2d:Nat:=14
noncomputable abbrev b1r:Func:=Try.f14
theorem b9s:prog.funcs[c2d]?=some b1r:=Try.func14
theorem e9i:b1r.body=some (a0k b1r):=by kernel_rfl
abbrev c4c:Nat:=15
noncomputable abbrev a8k:Func:=Try.f15
theorem c9z:prog.funcs[c4c]?=some a8k:=Try.func15
theorem e1w:a8k.body=some (a0k a8k):=by kernel_rfl
abbrev d3y:Nat:=16
noncomputable abbrev a4m:Func:=Try.f16
theorem d0d:prog.funcs[d3y]?=some a4m:=Try.func16
theorem e2a:a4m.body=some (a0k a4m):=by kernel_rfl
abbrev c8u:Nat:=17
noncomputable abbrev a3v:Func:=Try.f17
theorem c6c:prog.funcs[c8u]?=some a3v:=Try.func17
theorem d7q:a3v.body=some (a0k a3v):=by kernel_rfl
abbrev c4e:Nat:=18
noncomputable abbrev a8m:Func:=Try.f18
theorem d0b:prog.funcs[c4e]?=some a8m:=Try.func18
theorem e1y:a8m.body=some (a0k a8m):=by kernel_rfl
abbrev c0g:Nat:=19
noncomputable abbrev f7e:Func:=Try.f19
theorem f3e:prog.funcs[c0g]?=some f7e:=Try.func19
abbrev c7v:Nat:=24
noncomputable abbrev b2a:Func:=Try.f24
theorem d5m:prog.funcs[c7v]?=some b2a:=Try.func24
theorem e9r:b2a.body=some (a0k b2a):=by kernel_rfl
abbrev c4i:Nat:=26
noncomputable abbrev a8q:Func:=Try.f26
theorem d0f:prog.funcs[c4i]?=some a8q:=Try.func26
theorem e2e:a8q.body=some (a0k a8q):=by kernel_rfl
abbrev c4h:Nat:=29
noncomputable abbrev b5c:Func:=Try.f29
theorem d9d:prog.funcs[c4h]?=some b5c:=Try.func29
theorem f3m:b5c.body=some (a0k b5c):=by kernel_rfl
abbrev d1v:Nat:=30
noncomputable abbrev b4z:Func:=Try.f30
theorem d9a:prog.funcs[d1v]?=some b4z:=Try.func30
theorem f3j:b4z.body=some (a0k b4z):=by kernel_rfl
abbrev c5p:Nat:=32
noncomputable abbrev b0f:Func:=Try.f32
theorem d2t:prog.funcs[c5p]?=some b0f:=Try.func32
theorem e6f:b0f.body=some (a0k b0f):=by kernel_rfl
abbrev b7n:Nat:=33
noncomputable abbrev b1z:Func:=Try.f33
theorem b9w:prog.funcs[b7n]?=some b1z:=Try.func33
theorem e9q:b1z.body=some (a0k b1z):=by kernel_rfl
abbrev g2x:Nat:=34
abbrev c4f:Nat:=35
noncomputable abbrev b4y:Func:=Try.f35
theorem d8z:prog.funcs[c4f]?=some b4y:=Try.func35
theorem f3i:b4y.body=some (a0k b4y):=by kernel_rfl
abbrev b4p:Nat:=36
noncomputable abbrev a6x:Func:=Try.f36
theorem c6d:prog.funcs[b4p]?=some a6x:=Try.func36
theorem d7r:a6x.body=some (a0k a6x):=by kernel_rfl
abbrev c2t:Nat:=37
noncomputable abbrev a7h:Func:=Try.f37
theorem c7z:prog.funcs[c2t]?=some a7h:=Try.func37
theorem e0i:a7h.body=some (a0k a7h):=by kernel_rfl
abbrev c7p:Nat:=38
noncomputable abbrev b1n:Func:=Try.f38
theorem d5g:prog.funcs[c7p]?=some b1n:=Try.func38
theorem e9e:b1n.body=some (a0k b1n):=by kernel_rfl
abbrev c7n:Nat:=39
noncomputable abbrev b1l:Func:=Try.f39
theorem d5e:prog.funcs[c7n]?=some b1l:=Try.func39
theorem e9c:b1l.body=some (a0k b1l):=by kernel_rfl
abbrev c2u:Nat:=40
noncomputable abbrev a7i:Func:=Try.f40
theorem c8a:prog.funcs[c2u]?=some a7i:=Try.func40
theorem e0j:a7i.body=some (a0k a7i):=by kernel_rfl
abbrev b8t:Nat:=41
noncomputable abbrev a8j:Func:=Try.f41
theorem b6g:prog.funcs[b8t]?=some a8j:=Try.func41
theorem e1v:a8j.body=some (a0k a8j):=by kernel_rfl
abbrev c7m:Nat:=42
noncomputable abbrev b1k:Func:=Try.f42
theorem d5d:prog.funcs[c7m]?=some b1k:=Try.func42
theorem e9b:b1k.body=some (a0k b1k):=by kernel_rfl
abbrev b8r:Nat:=43
noncomputable abbrev a8f:Func:=Try.f43
theorem b6e:prog.funcs[b8r]?=some a8f:=Try.func43
theorem e1r:a8f.body=some (a0k a8f):=by kernel_rfl
abbrev c0l:Nat:=44
noncomputable abbrev b0d:Func:=Try.f44
theorem b8a:prog.funcs[c0l]?=some b0d:=Try.func44
theorem e6d:b0d.body=some (a0k b0d):=by kernel_rfl
abbrev c2e:Nat:=45
noncomputable abbrev b1s:Func:=Try.f45
theorem b9t:prog.funcs[c2e]?=some b1s:=Try.func45
theorem e9j:b1s.body=some (a0k b1s):=by kernel_rfl
abbrev c5h:Nat:=46
noncomputable abbrev a9s:Func:=Try.f46
theorem c3r:prog.funcs[c5h]?=some a9s:=Try.func46
theorem e5s:a9s.body=some (a0k a9s):=by kernel_rfl
abbrev a8t:Nat:=47
noncomputable abbrev a5z:Func:=Try.f47
theorem a6e:prog.funcs[a8t]?=some a5z:=Try.func47
theorem d0h:a5z.body=some (a0k a5z):=by kernel_rfl
abbrev b5s:Nat:=48
noncomputable abbrev a5c:Func:=Try.f48
theorem a8a:prog.funcs[b5s]?=some a5c:=Try.func48
theorem c8c:a5c.body=some (a0k a5c):=by kernel_rfl
abbrev c2c:Nat:=49
noncomputable abbrev b1q:Func:=Try.f49
theorem b9r:prog.funcs[c2c]?=some b1q:=Try.func49
theorem e9h:b1q.body=some (a0k b1q):=by kernel_rfl
abbrev c5f:Nat:=50
noncomputable abbrev a9q:Func:=Try.f50
theorem c3p:prog.funcs[c5f]?=some a9q:=Try.func50
theorem e5q:a9q.body=some (a0k a9q):=by kernel_rfl
abbrev d3x:Nat:=51
noncomputable abbrev a4l:Func:=Try.f51
theorem d0c:prog.funcs[d3x]?=some a4l:=Try.func51
theorem e1z:a4l.body=some (a0k a4l):=by kernel_rfl
abbrev c2w:Nat:=52
noncomputable abbrev a4f:Func:=Try.f52
theorem b4l:prog.funcs[c2w]?=some a4f:=Try.func52
theorem e0n:a4f.body=some (a0k a4f):=by kernel_rfl
abbrev c4d:Nat:=53
noncomputable abbrev a8l:Func:=Try.f53
theorem d0a:prog.funcs[c4d]?=some a8l:=Try.func53
theorem e1x:a8l.body=some (a0k a8l):=by kernel_rfl
abbrev b6y:Nat:=54
noncomputable abbrev a7k:Func:=Try.f54
theorem b4j:prog.funcs[b6y]?=some a7k:=Try.func54
theorem e0l:a7k.body=some (a0k a7k):=by kernel_rfl
abbrev d1w:Nat:=58
noncomputable abbrev b5a:Func:=Try.f58
theorem d9b:prog.funcs[d1w]?=some b5a:=Try.func58
theorem f3k:b5a.body=some (a0k b5a):=by kernel_rfl
abbrev c2g:Nat:=59
noncomputable abbrev b1v:Func:=Try.f59
theorem b9v:prog.funcs[c2g]?=some b1v:=Try.func59
theorem e9m:b1v.body=some (a0k b1v):=by kernel_rfl
abbrev c5j:Nat:=61
noncomputable abbrev a9x:Func:=Try.f61
theorem d2n:prog.funcs[c5j]?=some a9x:=Try.func61
theorem e5x:a9x.body=some (a0k a9x):=by kernel_rfl
abbrev c7u:Nat:=62
noncomputable abbrev b1y:Func:=Try.f62
theorem d5l:prog.funcs[c7u]?=some b1y:=Try.func62
theorem e9p:b1y.body=some (a0k b1y):=by kernel_rfl
abbrev c7s:Nat:=63
noncomputable abbrev b1w:Func:=Try.f63
theorem d5j:prog.funcs[c7s]?=some b1w:=Try.func63
theorem e9n:b1w.body=some (a0k b1w):=by kernel_rfl
abbrev c0k:Nat:=64
noncomputable abbrev b0b:Func:=Try.f64
theorem b7z:prog.funcs[c0k]?=some b0b:=Try.func64
theorem e6b:b0b.body=some (a0k b0b):=by kernel_rfl
abbrev b8v:Nat:=65
noncomputable abbrev a8o:Func:=Try.f65
theorem b6j:prog.funcs[b8v]?=some a8o:=Try.func65
theorem e2c:a8o.body=some (a0k a8o):=by kernel_rfl
abbrev c0m:Nat:=66
noncomputable abbrev b0g:Func:=Try.f66
theorem b8b:prog.funcs[c0m]?=some b0g:=Try.func66
theorem e6g:b0g.body=some (a0k b0g):=by kernel_rfl
abbrev c0h:Nat:=67
noncomputable abbrev a9u:Func:=Try.f67
theorem b7w:prog.funcs[c0h]?=some a9u:=Try.func67
theorem e5u:a9u.body=some (a0k a9u):=by kernel_rfl
abbrev b8u:Nat:=68
noncomputable abbrev a8n:Func:=Try.f68
theorem b6i:prog.funcs[b8u]?=some a8n:=Try.func68
theorem e2b:a8n.body=some (a0k a8n):=by kernel_rfl
abbrev c0j:Nat:=69
noncomputable abbrev a9w:Func:=Try.f69
theorem b7y:prog.funcs[c0j]?=some a9w:=Try.func69
theorem e5w:a9w.body=some (a0k a9w):=by kernel_rfl
abbrev c4g:Nat:=70
noncomputable abbrev a8p:Func:=Try.f70
theorem d0e:prog.funcs[c4g]?=some a8p:=Try.func70
theorem e2d:a8p.body=some (a0k a8p):=by kernel_rfl
abbrev c7t:Nat:=71
noncomputable abbrev b1x:Func:=Try.f71
theorem d5k:prog.funcs[c7t]?=some b1x:=Try.func71
theorem e9o:b1x.body=some (a0k b1x):=by kernel_rfl
abbrev c5o:Nat:=72
noncomputable abbrev b0e:Func:=Try.f72
theorem d2s:prog.funcs[c5o]?=some b0e:=Try.func72
theorem e6e:b0e.body=some (a0k b0e):=by kernel_rfl
abbrev c3z:Nat:=73
noncomputable abbrev a8d:Func:=Try.f73
theorem c9w:prog.funcs[c3z]?=some a8d:=Try.func73
theorem e1p:a8d.body=some (a0k a8d):=by kernel_rfl
abbrev c7q:Nat:=74
noncomputable abbrev b1p:Func:=Try.f74
theorem d5h:prog.funcs[c7q]?=some b1p:=Try.func74
theorem e9g:b1p.body=some (a0k b1p):=by kernel_rfl
abbrev c4a:Nat:=75
noncomputable abbrev a8g:Func:=Try.f75
theorem c9x:prog.funcs[c4a]?=some a8g:=Try.func75
theorem e1s:a8g.body=some (a0k a8g):=by kernel_rfl
abbrev b3r:Nat:=76
noncomputable abbrev a8c:Func:=Try.f76
theorem b6c:prog.funcs[b3r]?=some a8c:=Try.func76
theorem e1o:a8c.body=some (a0k a8c):=by kernel_rfl
abbrev d4s:Nat:=77
noncomputable abbrev b7p:Func:=Try.f77
theorem e1l:prog.funcs[d4s]?=some b7p:=Try.func77
theorem f6z:b7p.body=some (a0k b7p):=by kernel_rfl
abbrev c7j:Nat:=78
noncomputable abbrev b1h:Func:=Try.f78
theorem d5a:prog.funcs[c7j]?=some b1h:=Try.func78
theorem e8y:b1h.body=some (a0k b1h):=by kernel_rfl
abbrev d4t:Nat:=79
noncomputable abbrev b7q:Func:=Try.f79
theorem e1m:prog.funcs[d4t]?=some b7q:=Try.func79
theorem f7a:b7q.body=some (a0k b7q):=by kernel_rfl
abbrev d8k:Nat:=80
noncomputable abbrev b9y:Func:=Try.f80
theorem e8a:prog.funcs[d8k]?=some b9y:=Try.func80
theorem g0s:b9y.body=some (a0k b9y):=by kernel_rfl
abbrev b3q:Nat:=81
noncomputable abbrev a8b:Func:=Try.f81
theorem b6b:prog.funcs[b3q]?=some a8b:=Try.func81
theorem e1n:a8b.body=some (a0k a8b):=by kernel_rfl
abbrev a5u:Nat:=82
noncomputable abbrev e0o:Func:=Try.f82
theorem d7p:prog.funcs[a5u]?=some e0o:=Try.func82
abbrev b8s:Nat:=83
noncomputable abbrev a8h:Func:=Try.f83
theorem b6f:prog.funcs[b8s]?=some a8h:=Try.func83
theorem e1t:a8h.body=some (a0k a8h):=by kernel_rfl
abbrev b8q:Nat:=84
noncomputable abbrev a8e:Func:=Try.f84
theorem b6d:prog.funcs[b8q]?=some a8e:=Try.func84
theorem e1q:a8e.body=some (a0k a8e):=by kernel_rfl
abbrev c0i:Nat:=85
noncomputable abbrev a9v:Func:=Try.f85
theorem b7x:prog.funcs[c0i]?=some a9v:=Try.func85
theorem e5v:a9v.body=some (a0k a9v):=by kernel_rfl
abbrev c5g:Nat:=86
noncomputable abbrev a9r:Func:=Try.f86
theorem c3q:prog.funcs[c5g]?=some a9r:=Try.func86
theorem e5r:a9r.body=some (a0k a9r):=by kernel_rfl
abbrev b5r:Nat:=87
noncomputable abbrev a5b:Func:=Try.f87
theorem a7z:prog.funcs[b5r]?=some a5b:=Try.func87
theorem c8b:a5b.body=some (a0k a5b):=by kernel_rfl
abbrev c5e:Nat:=88
noncomputable abbrev a9p:Func:=Try.f88
theorem c3o:prog.funcs[c5e]?=some a9p:=Try.func88
theorem e5p:a9p.body=some (a0k a9p):=by kernel_rfl
abbrev c2v:Nat:=89
noncomputable abbrev a4e:Func:=Try.f89
theorem b4k:prog.funcs[c2v]?=some a4e:=Try.func89
theorem e0m:a4e.body=some (a0k a4e):=by kernel_rfl
abbrev b6x:Nat:=90
noncomputable abbrev a7j:Func:=Try.f90
theorem b4i:prog.funcs[b6x]?=some a7j:=Try.func90
theorem e0k:a7j.body=some (a0k a7j):=by kernel_rfl
abbrev c7r:Nat:=92
noncomputable abbrev b1u:Func:=Try.f92
theorem d5i:prog.funcs[c7r]?=some b1u:=Try.func92
theorem e9l:b1u.body=some (a0k b1u):=by kernel_rfl
abbrev c5m:Nat:=93
noncomputable abbrev b0a:Func:=Try.f93
theorem d2q:prog.funcs[c5m]?=some b0a:=Try.func93
theorem e6a:b0a.body=some (a0k b0a):=by kernel_rfl
abbrev c5k:Nat:=94
noncomputable abbrev a9y:Func:=Try.f94
theorem d2o:prog.funcs[c5k]?=some a9y:=Try.func94
theorem e5y:a9y.body=some (a0k a9y):=by kernel_rfl
abbrev c5l:Nat:=95
noncomputable abbrev a9z:Func:=Try.f95
theorem d2p:prog.funcs[c5l]?=some a9z:=Try.func95
theorem e5z:a9z.body=some (a0k a9z):=by kernel_rfl
abbrev c5n:Nat:=96
noncomputable abbrev b0c:Func:=Try.f96
theorem d2r:prog.funcs[c5n]?=some b0c:=Try.func96
theorem e6c:b0c.body=some (a0k b0c):=by kernel_rfl
abbrev c5i:Nat:=97
noncomputable abbrev a9t:Func:=Try.f97
theorem d2m:prog.funcs[c5i]?=some a9t:=Try.func97
theorem e5t:a9t.body=some (a0k a9t):=by kernel_rfl
abbrev b1d:Nat:=98
noncomputable abbrev a5t:Func:=Try.f98
theorem a9c:prog.funcs[b1d]?=some a5t:=Try.func98
theorem d4j:a5t.body=some (a0k a5t):=by kernel_rfl
abbrev d1x:Nat:=99
noncomputable abbrev b5b:Func:=Try.f99
theorem d9c:prog.funcs[d1x]?=some b5b:=Try.func99
theorem f3l:b5b.body=some (a0k b5b):=by kernel_rfl
abbrev b1f:Nat:=100
noncomputable abbrev a4c:Func:=Try.f100
theorem b8z:prog.funcs[b1f]?=some a4c:=Try.func100
theorem c7e:a4c.body=some (a0k a4c):=by kernel_rfl
abbrev b1e:Nat:=101
noncomputable abbrev a4b:Func:=Try.f101
theorem b8y:prog.funcs[b1e]?=some a4b:=Try.func101
theorem c7d:a4b.body=some (a0k a4b):=by kernel_rfl
abbrev c4b:Nat:=102
noncomputable abbrev a8i:Func:=Try.f102
theorem c9y:prog.funcs[c4b]?=some a8i:=Try.func102
theorem e1u:a8i.body=some (a0k a8i):=by kernel_rfl
abbrev b9h:Nat:=103
noncomputable abbrev a6i:Func:=Try.f103
theorem c4p:prog.funcs[b9h]?=some a6i:=Try.func103
theorem d5o:a6i.body=some (a0k a6i):=by kernel_rfl
abbrev c7l:Nat:=104
noncomputable abbrev b1j:Func:=Try.f104
theorem d5c:prog.funcs[c7l]?=some b1j:=Try.func104
theorem e9a:b1j.body=some (a0k b1j):=by kernel_rfl
abbrev c7k:Nat:=106
noncomputable abbrev b1i:Func:=Try.f106
theorem d5b:prog.funcs[c7k]?=some b1i:=Try.func106
theorem e8z:b1i.body=some (a0k b1i):=by kernel_rfl
abbrev b3p:Nat:=107
noncomputable abbrev a6h:Func:=Try.f107
theorem b1c:prog.funcs[b3p]?=some a6h:=Try.func107
theorem d5n:a6h.body=some (a0k a6h):=by kernel_rfl
abbrev c2b:Nat:=108
noncomputable abbrev b1o:Func:=Try.f108
theorem b9q:prog.funcs[c2b]?=some b1o:=Try.func108
theorem e9f:b1o.body=some (a0k b1o):=by kernel_rfl
abbrev c7o:Nat:=109
noncomputable abbrev b1m:Func:=Try.f109
theorem d5f:prog.funcs[c7o]?=some b1m:=Try.func109
theorem e9d:b1m.body=some (a0k b1m):=by kernel_rfl
end Go.Proofs.Ytlaoejdeanljgaa
