/- The types and the functions of the seat, by name. Printed by gen_tab.py. -/
import Derived.Test.YtlaoejdeanljgaaVmStFun
import Derived.Test.YtlaoejdeanljgaaChecked
set_option linter.unusedVariables false
namespace Go.Proofs.Ytlaoejdeanljgaa
def c8v:List (Nat×Ty×Nat×Nat) :=
 [(2,(.int .i64),0,0),
  (3,(.int .i64),0,0),
  (4, .bool,0,0),
  (5,(.int .u8),0,0),
  (9, .str,0,0),
  (12,(.int .u64),0,0),
  (22,(.slice (.int .u8)),1,5),
  (25,(.st .sig),0,0),
  (26,(.slice (.st .expr)),40,28),
  (28,(.st .expr),0,0),
  (29,(.slice (.st .prog)),80,31),
  (31,(.st .prog),0,0),
  (32,(.slice (.int .i64)),8,2),
  (38,(.st .sig),0,0),
  (39,(.slice (.st .expr)),40,41),
  (41,(.st .expr),0,0),
  (42,(.slice (.st .prog)),80,44),
  (44,(.st .prog),0,0),
  (53, .ptr,0,0),
  (89,(.int .u64),0,0),
  (91,(.st .l00Src),0,0),
  (95,(.st .l06Gen),0,0),
  (116,(.int .u64),0,0),
  (118,(.st .l01Gen),0,0)]
def f3c:List (Nat×Ty) :=
 [(53,(.st .l00Src)),(63,(.st .prog)),(66,(.st .expr)),(93,(.st .l06Gen)),(117,(.st .l01Gen)),(143,(.int .u8))]
def e3d:List (Nat×Ty×Ty):=[]
abbrev f9c:Nat:=4
abbrev f6j:Nat:=22
noncomputable abbrev prog:Program:=Try.prog
theorem d8j(c:Nat→List Arg→Option (Vc×List TV))(wr own:List Nat)(oc:Nat→List Arg→Option (Vc×List TV))(mk:Nat→Option f4h)(cl:Nat→Option c6i)(ro:List Nat)(tk:Nat→List Bool)(sk:Nat→Option SK)(sc:Nat→List Arg→List (List TV)→Option (Vc×List TV×List (List TV)))(nc:Nat→List Arg→Option (Vc×f9a)):((c8v.all fun r=>c0j prog (Env.mk c8v f3c c wr own oc mk cl ro tk sk sc e3d nc) r.1 r.2.1 r.2.2.1 r.2.2.2)&&e3d.all fun r=>f4y prog (Env.mk c8v f3c c wr own oc mk cl ro tk sk sc e3d nc) r.1 r.2.1 r.2.2)=true:=by kernel_rfl
theorem c8m:prog.follows .mixedOrders=true:=Checked.mixed Try.checked
def a0i(f:Func):Code:=match f.body with
 | some c=>c
 | none => .skip
abbrev b7t:Nat:=3
noncomputable abbrev a8l:Func:=Try.f3
theorem c9k:prog.funcs[b7t]?=some a8l:=Try.func3
theorem e1h:a8l.body=some (a0i a8l):=by kernel_rfl
abbrev c6x:Nat:=5
noncomputable abbrev b1t:Func:=Try.f5
theorem d4k:prog.funcs[c6x]?=some b1t:=Try.func5
theorem e7s:b1t.body=some (a0i b1t):=by kernel_rfl
abbrev c6y:Nat:=6
noncomputable abbrev b1u:Func:=Try.f6
theorem d4l:prog.funcs[c6y]?=some b1u:=Try.func6
theorem e7t:b1u.body=some (a0i b1u):=by kernel_rfl
abbrev b6d:Nat:=7
noncomputable abbrev e8g:Func:=Try.f7
theorem e4q:prog.funcs[b6d]?=some e8g:=Try.func7
abbrev c1c:Nat:=8
noncomputable abbrev a7k:Func:=Try.f8
theorem c7h:prog.funcs[c1c]?=some a7k:=Try.func8
theorem d9w:a7k.body=some (a0i a7k):=by kernel_rfl
abbrev c3a:Nat:=9
noncomputable abbrev a8m:Func:=Try.f9
theorem c9l:prog.funcs[c3a]?=some a8m:=Try.func9
theorem e1i:a8m.body=some (a0i a8m):=by kernel_rfl
abbrev b9f:Nat:=19
noncomputable abbrev f4r:Func:=Try.f19
theorem f0z:prog.funcs[b9f]?=some f4r:=Try.func19
abbrev c0b:Nat:=20
noncomputable abbrev a6q:Func:=Try.f20
theorem c5i:prog.funcs[c0b]?=some a6q:=Try.func20
theorem d7b:a6q.body=some (a0i a6q):=by kernel_rfl
abbrev b8j:Nat:=21
noncomputable abbrev a5t:Func:=Try.f21
theorem c3q:prog.funcs[b8j]?=some a5t:=Try.func21
theorem d4v:a5t.body=some (a0i a5t):=by kernel_rfl
abbrev c0c:Nat:=22
noncomputable abbrev a6s:Func:=Try.f22
theorem c5k:prog.funcs[c0c]?=some a6s:=Try.func22
theorem d7d:a6s.body=some (a0i a6s):=by kernel_rfl
abbrev c0a:Nat:=23
noncomputable abbrev a6p:Func:=Try.f23
theorem c5h:prog.funcs[c0a]?=some a6p:=Try.func23
theorem d7a:a6p.body=some (a0i a6p):=by kernel_rfl
abbrev c7e:Nat:=24
noncomputable abbrev b2c:Func:=Try.f24
theorem d4r:prog.funcs[c7e]?=some b2c:=Try.func24
theorem e8b:b2c.body=some (a0i b2c):=by kernel_rfl
abbrev c3c:Nat:=25
noncomputable abbrev a8p:Func:=Try.f25
theorem c9m:prog.funcs[c3c]?=some a8p:=Try.func25
theorem e1l:a8p.body=some (a0i a8p):=by kernel_rfl
abbrev c3f:Nat:=26
noncomputable abbrev a8r:Func:=Try.f26
theorem c9o:prog.funcs[c3f]?=some a8r:=Try.func26
theorem e1n:a8r.body=some (a0i a8r):=by kernel_rfl
abbrev c4r:Nat:=27
noncomputable abbrev b0j:Func:=Try.f27
theorem d1u:prog.funcs[c4r]?=some b0j:=Try.func27
theorem e5g:b0j.body=some (a0i b0j):=by kernel_rfl
abbrev b9j:Nat:=28
noncomputable abbrev b0b:Func:=Try.f28
theorem b7d:prog.funcs[b9j]?=some b0b:=Try.func28
theorem e4y:b0b.body=some (a0i b0b):=by kernel_rfl
abbrev c3e:Nat:=29
noncomputable abbrev b4p:Func:=Try.f29
theorem d8v:prog.funcs[c3e]?=some b4p:=Try.func29
theorem f1g:b4p.body=some (a0i b4p):=by kernel_rfl
abbrev d0y:Nat:=30
noncomputable abbrev b4m:Func:=Try.f30
theorem d8s:prog.funcs[d0y]?=some b4m:=Try.func30
theorem f1d:b4m.body=some (a0i b4m):=by kernel_rfl
abbrev c7b:Nat:=31
noncomputable abbrev b1y:Func:=Try.f31
theorem d4o:prog.funcs[c7b]?=some b1y:=Try.func31
theorem e7x:b1y.body=some (a0i b1y):=by kernel_rfl
abbrev c4q:Nat:=32
noncomputable abbrev b0h:Func:=Try.f32
theorem d1t:prog.funcs[c4q]?=some b0h:=Try.func32
theorem e5e:b0h.body=some (a0i b0h):=by kernel_rfl
abbrev b6q:Nat:=33
noncomputable abbrev b2b:Func:=Try.f33
theorem b8w:prog.funcs[b6q]?=some b2b:=Try.func33
theorem e8a:b2b.body=some (a0i b2b):=by kernel_rfl
abbrev g0i:Nat:=34
abbrev c3b:Nat:=35
noncomputable abbrev b4l:Func:=Try.f35
theorem d8r:prog.funcs[c3b]?=some b4l:=Try.func35
theorem f1c:b4l.body=some (a0i b4l):=by kernel_rfl
abbrev b4f:Nat:=36
noncomputable abbrev a6r:Func:=Try.f36
theorem c5j:prog.funcs[b4f]?=some a6r:=Try.func36
theorem d7c:a6r.body=some (a0i a6r):=by kernel_rfl
abbrev c1d:Nat:=37
noncomputable abbrev a7l:Func:=Try.f37
theorem c7i:prog.funcs[c1d]?=some a7l:=Try.func37
theorem d9x:a7l.body=some (a0i a7l):=by kernel_rfl
abbrev c6v:Nat:=38
noncomputable abbrev b1q:Func:=Try.f38
theorem d4i:prog.funcs[c6v]?=some b1q:=Try.func38
theorem e7p:b1q.body=some (a0i b1q):=by kernel_rfl
abbrev c6t:Nat:=39
noncomputable abbrev b1o:Func:=Try.f39
theorem d4g:prog.funcs[c6t]?=some b1o:=Try.func39
theorem e7n:b1o.body=some (a0i b1o):=by kernel_rfl
abbrev c1e:Nat:=40
noncomputable abbrev a7m:Func:=Try.f40
theorem c7j:prog.funcs[c1e]?=some a7m:=Try.func40
theorem d9y:a7m.body=some (a0i a7m):=by kernel_rfl
abbrev b7s:Nat:=41
noncomputable abbrev a8k:Func:=Try.f41
theorem b5r:prog.funcs[b7s]?=some a8k:=Try.func41
theorem e1g:a8k.body=some (a0i a8k):=by kernel_rfl
abbrev c6s:Nat:=42
noncomputable abbrev b1n:Func:=Try.f42
theorem d4f:prog.funcs[c6s]?=some b1n:=Try.func42
theorem e7m:b1n.body=some (a0i b1n):=by kernel_rfl
abbrev b7q:Nat:=43
noncomputable abbrev a8g:Func:=Try.f43
theorem b5p:prog.funcs[b7q]?=some a8g:=Try.func43
theorem e1c:a8g.body=some (a0i a8g):=by kernel_rfl
abbrev b9l:Nat:=44
noncomputable abbrev b0f:Func:=Try.f44
theorem b7f:prog.funcs[b9l]?=some b0f:=Try.func44
theorem e5c:b0f.body=some (a0i b0f):=by kernel_rfl
abbrev b8i:Nat:=55
noncomputable abbrev a5s:Func:=Try.f55
theorem c3p:prog.funcs[b8i]?=some a5s:=Try.func55
theorem d4u:a5s.body=some (a0i a5s):=by kernel_rfl
abbrev b8l:Nat:=56
noncomputable abbrev a5w:Func:=Try.f56
theorem c3s:prog.funcs[b8l]?=some a5w:=Try.func56
theorem d4y:a5w.body=some (a0i a5w):=by kernel_rfl
abbrev b3o:Nat:=57
noncomputable abbrev a5x:Func:=Try.f57
theorem b1b:prog.funcs[b3o]?=some a5x:=Try.func57
theorem d4z:a5x.body=some (a0i a5x):=by kernel_rfl
abbrev d0z:Nat:=58
noncomputable abbrev b4n:Func:=Try.f58
theorem d8t:prog.funcs[d0z]?=some b4n:=Try.func58
theorem f1e:b4n.body=some (a0i b4n):=by kernel_rfl
abbrev c0s:Nat:=59
noncomputable abbrev b1w:Func:=Try.f59
theorem b8v:prog.funcs[c0s]?=some b1w:=Try.func59
theorem e7v:b1w.body=some (a0i b1w):=by kernel_rfl
abbrev c4k:Nat:=60
noncomputable abbrev a9y:Func:=Try.f60
theorem d1n:prog.funcs[c4k]?=some a9y:=Try.func60
theorem e4v:a9y.body=some (a0i a9y):=by kernel_rfl
abbrev b5f:Nat:=61
noncomputable abbrev a4y:Func:=Try.f61
theorem b7c:prog.funcs[b5f]?=some a4y:=Try.func61
theorem c7k:a4y.body=some (a0i a4y):=by kernel_rfl
abbrev c7d:Nat:=62
noncomputable abbrev b2a:Func:=Try.f62
theorem d4q:prog.funcs[c7d]?=some b2a:=Try.func62
theorem e7z:b2a.body=some (a0i b2a):=by kernel_rfl
abbrev c7a:Nat:=63
noncomputable abbrev b1x:Func:=Try.f63
theorem d4n:prog.funcs[c7a]?=some b1x:=Try.func63
theorem e7w:b1x.body=some (a0i b1x):=by kernel_rfl
abbrev b9k:Nat:=64
noncomputable abbrev b0d:Func:=Try.f64
theorem b7e:prog.funcs[b9k]?=some b0d:=Try.func64
theorem e5a:b0d.body=some (a0i b0d):=by kernel_rfl
abbrev b7v:Nat:=65
noncomputable abbrev a8o:Func:=Try.f65
theorem b5t:prog.funcs[b7v]?=some a8o:=Try.func65
theorem e1k:a8o.body=some (a0i a8o):=by kernel_rfl
abbrev b9m:Nat:=66
noncomputable abbrev b0i:Func:=Try.f66
theorem b7g:prog.funcs[b9m]?=some b0i:=Try.func66
theorem e5f:b0i.body=some (a0i b0i):=by kernel_rfl
abbrev b9g:Nat:=67
noncomputable abbrev a9v:Func:=Try.f67
theorem b6z:prog.funcs[b9g]?=some a9v:=Try.func67
theorem e4s:a9v.body=some (a0i a9v):=by kernel_rfl
abbrev b7u:Nat:=68
noncomputable abbrev a8n:Func:=Try.f68
theorem b5s:prog.funcs[b7u]?=some a8n:=Try.func68
theorem e1j:a8n.body=some (a0i a8n):=by kernel_rfl
abbrev b9i:Nat:=69
noncomputable abbrev a9x:Func:=Try.f69
theorem b7b:prog.funcs[b9i]?=some a9x:=Try.func69
theorem e4u:a9x.body=some (a0i a9x):=by kernel_rfl
abbrev c3d:Nat:=70
noncomputable abbrev a8q:Func:=Try.f70
theorem c9n:prog.funcs[c3d]?=some a8q:=Try.func70
theorem e1m:a8q.body=some (a0i a8q):=by kernel_rfl
abbrev c7c:Nat:=71
noncomputable abbrev b1z:Func:=Try.f71
theorem d4p:prog.funcs[c7c]?=some b1z:=Try.func71
theorem e7y:b1z.body=some (a0i b1z):=by kernel_rfl
abbrev c4p:Nat:=72
noncomputable abbrev b0g:Func:=Try.f72
theorem d1s:prog.funcs[c4p]?=some b0g:=Try.func72
theorem e5d:b0g.body=some (a0i b0g):=by kernel_rfl
abbrev c2x:Nat:=73
noncomputable abbrev a8e:Func:=Try.f73
theorem c9h:prog.funcs[c2x]?=some a8e:=Try.func73
theorem e1a:a8e.body=some (a0i a8e):=by kernel_rfl
abbrev c6w:Nat:=74
noncomputable abbrev b1s:Func:=Try.f74
theorem d4j:prog.funcs[c6w]?=some b1s:=Try.func74
theorem e7r:b1s.body=some (a0i b1s):=by kernel_rfl
abbrev c2y:Nat:=75
noncomputable abbrev a8h:Func:=Try.f75
theorem c9i:prog.funcs[c2y]?=some a8h:=Try.func75
theorem e1d:a8h.body=some (a0i a8h):=by kernel_rfl
abbrev b3m:Nat:=76
noncomputable abbrev a8d:Func:=Try.f76
theorem b5n:prog.funcs[b3m]?=some a8d:=Try.func76
theorem e0z:a8d.body=some (a0i a8d):=by kernel_rfl
abbrev d3u:Nat:=77
noncomputable abbrev b6t:Func:=Try.f77
theorem e0w:prog.funcs[d3u]?=some b6t:=Try.func77
theorem f4m:b6t.body=some (a0i b6t):=by kernel_rfl
abbrev c6p:Nat:=78
noncomputable abbrev b1k:Func:=Try.f78
theorem d4c:prog.funcs[c6p]?=some b1k:=Try.func78
theorem e7j:b1k.body=some (a0i b1k):=by kernel_rfl
abbrev d3v:Nat:=79
noncomputable abbrev b6u:Func:=Try.f79
theorem e0x:prog.funcs[d3v]?=some b6u:=Try.func79
theorem f4n:b6u.body=some (a0i b6u):=by kernel_rfl
abbrev d7s:Nat:=80
noncomputable abbrev b8y:Func:=Try.f80
theorem e6n:prog.funcs[d7s]?=some b8y:=Try.func80
theorem f8c:b8y.body=some (a0i b8y):=by kernel_rfl
abbrev b3l:Nat:=81
noncomputable abbrev a8c:Func:=Try.f81
theorem b5m:prog.funcs[b3l]?=some a8c:=Try.func81
theorem e0y:a8c.body=some (a0i a8c):=by kernel_rfl
abbrev a5k:Nat:=82
noncomputable abbrev d9z:Func:=Try.f82
theorem d6z:prog.funcs[a5k]?=some d9z:=Try.func82
abbrev b7r:Nat:=83
noncomputable abbrev a8i:Func:=Try.f83
theorem b5q:prog.funcs[b7r]?=some a8i:=Try.func83
theorem e1e:a8i.body=some (a0i a8i):=by kernel_rfl
abbrev b7p:Nat:=84
noncomputable abbrev a8f:Func:=Try.f84
theorem b5o:prog.funcs[b7p]?=some a8f:=Try.func84
theorem e1b:a8f.body=some (a0i a8f):=by kernel_rfl
abbrev b9h:Nat:=85
noncomputable abbrev a9w:Func:=Try.f85
theorem b7a:prog.funcs[b9h]?=some a9w:=Try.func85
theorem e4t:a9w.body=some (a0i a9w):=by kernel_rfl
abbrev b3n:Nat:=91
noncomputable abbrev a5u:Func:=Try.f91
theorem b1a:prog.funcs[b3n]?=some a5u:=Try.func91
theorem d4w:a5u.body=some (a0i a5u):=by kernel_rfl
abbrev c6z:Nat:=92
noncomputable abbrev b1v:Func:=Try.f92
theorem d4m:prog.funcs[c6z]?=some b1v:=Try.func92
theorem e7u:b1v.body=some (a0i b1v):=by kernel_rfl
abbrev c4n:Nat:=93
noncomputable abbrev b0c:Func:=Try.f93
theorem d1q:prog.funcs[c4n]?=some b0c:=Try.func93
theorem e4z:b0c.body=some (a0i b0c):=by kernel_rfl
abbrev c4l:Nat:=94
noncomputable abbrev a9z:Func:=Try.f94
theorem d1o:prog.funcs[c4l]?=some a9z:=Try.func94
theorem e4w:a9z.body=some (a0i a9z):=by kernel_rfl
abbrev c4m:Nat:=95
noncomputable abbrev b0a:Func:=Try.f95
theorem d1p:prog.funcs[c4m]?=some b0a:=Try.func95
theorem e4x:b0a.body=some (a0i b0a):=by kernel_rfl
abbrev c4o:Nat:=96
noncomputable abbrev b0e:Func:=Try.f96
theorem d1r:prog.funcs[c4o]?=some b0e:=Try.func96
theorem e5b:b0e.body=some (a0i b0e):=by kernel_rfl
abbrev c4j:Nat:=97
noncomputable abbrev a9u:Func:=Try.f97
theorem d1m:prog.funcs[c4j]?=some a9u:=Try.func97
theorem e4r:a9u.body=some (a0i a9u):=by kernel_rfl
abbrev b1d:Nat:=98
noncomputable abbrev a5j:Func:=Try.f98
theorem a9f:prog.funcs[b1d]?=some a5j:=Try.func98
theorem d3m:a5j.body=some (a0i a5j):=by kernel_rfl
abbrev d1a:Nat:=99
noncomputable abbrev b4o:Func:=Try.f99
theorem d8u:prog.funcs[d1a]?=some b4o:=Try.func99
theorem f1f:b4o.body=some (a0i b4o):=by kernel_rfl
abbrev b1h:Nat:=100
noncomputable abbrev a4d:Func:=Try.f100
theorem b7z:prog.funcs[b1h]?=some a4d:=Try.func100
theorem c6l:a4d.body=some (a0i a4d):=by kernel_rfl
abbrev b1g:Nat:=101
noncomputable abbrev a4c:Func:=Try.f101
theorem b7y:prog.funcs[b1g]?=some a4c:=Try.func101
theorem c6k:a4c.body=some (a0i a4c):=by kernel_rfl
abbrev c2z:Nat:=102
noncomputable abbrev a8j:Func:=Try.f102
theorem c9j:prog.funcs[c2z]?=some a8j:=Try.func102
theorem e1f:a8j.body=some (a0i a8j):=by kernel_rfl
abbrev b8h:Nat:=103
noncomputable abbrev a5r:Func:=Try.f103
theorem c3o:prog.funcs[b8h]?=some a5r:=Try.func103
theorem d4t:a5r.body=some (a0i a5r):=by kernel_rfl
abbrev c6r:Nat:=104
noncomputable abbrev b1m:Func:=Try.f104
theorem d4e:prog.funcs[c6r]?=some b1m:=Try.func104
theorem e7l:b1m.body=some (a0i b1m):=by kernel_rfl
abbrev b8k:Nat:=105
noncomputable abbrev a5v:Func:=Try.f105
theorem c3r:prog.funcs[b8k]?=some a5v:=Try.func105
theorem d4x:a5v.body=some (a0i a5v):=by kernel_rfl
abbrev c6q:Nat:=106
noncomputable abbrev b1l:Func:=Try.f106
theorem d4d:prog.funcs[c6q]?=some b1l:=Try.func106
theorem e7k:b1l.body=some (a0i b1l):=by kernel_rfl
abbrev b3k:Nat:=107
noncomputable abbrev a5q:Func:=Try.f107
theorem b0z:prog.funcs[b3k]?=some a5q:=Try.func107
theorem d4s:a5q.body=some (a0i a5q):=by kernel_rfl
abbrev c0r:Nat:=108
noncomputable abbrev b1r:Func:=Try.f108
theorem b8u:prog.funcs[c0r]?=some b1r:=Try.func108
theorem e7q:b1r.body=some (a0i b1r):=by kernel_rfl
abbrev c6u:Nat:=109
noncomputable abbrev b1p:Func:=Try.f109
theorem d4h:prog.funcs[c6u]?=some b1p:=Try.func109
theorem e7o:b1p.body=some (a0i b1p):=by kernel_rfl
end Go.Proofs.Ytlaoejdeanljgaa
