import Derived.KernelRfl
import Derived.Test.YtkhhpnngpelfnaaGreatK2
namespace Go.Proofs.YtkhhpnngpelfnaaGreat
open Go Go.Ev Go.Ev.W
noncomputable section
variable [Tok]
def k63 : Known := ⟨36, [(s [120,32,61,32,120])], (agg [(i 4),es,(i 0),ns,(i 8)]), true⟩
def t64 : Tr (List Known) := addK t63 k63
theorem s64 : Stage Tryz.prog base t64 := s63.add (by kernel_rfl)
def k64 : Known := ⟨165, [(s [102,32,61,32,92,121,32,45,62,32,121])], (tup [(psl 6 6 [(i 1),(s [102]),(i 0),(i 1),(i 1),ff,(i 5),(s [61]),(i 0),(i 1),(i 3),ff,(i 5),(s [92]),(i 0),(i 1),(i 5),ff,(i 1),(s [121]),(i 0),(i 1),(i 6),ff,(i 5),(s [45,62]),(i 0),(i 1),(i 8),ff,(i 1),(s [121]),(i 0),(i 1),(i 11),ff]),(agg [(i 0),(i 0),(i 0)])]), true⟩
def t65 : Tr (List Known) := addK t64 k64
theorem s65 : Stage Tryz.prog base t65 := s64.add (by kernel_rfl)
def k65 : Known := ⟨166, [(psl 6 6 [(i 1),(s [102]),(i 0),(i 1),(i 1),ff,(i 5),(s [61]),(i 0),(i 1),(i 3),ff,(i 5),(s [92]),(i 0),(i 1),(i 5),ff,(i 1),(s [121]),(i 0),(i 1),(i 6),ff,(i 5),(s [45,62]),(i 0),(i 1),(i 8),ff,(i 1),(s [121]),(i 0),(i 1),(i 11),ff])], (psl 8 6 [(i 5),(s [123]),(i 0),(i 1),(i 1),tt,(i 1),(s [102]),(i 0),(i 1),(i 1),ff,(i 5),(s [61]),(i 0),(i 1),(i 3),ff,(i 5),(s [92]),(i 0),(i 1),(i 5),ff,(i 1),(s [121]),(i 0),(i 1),(i 6),ff,(i 5),(s [45,62]),(i 0),(i 1),(i 8),ff,(i 1),(s [121]),(i 0),(i 1),(i 11),ff,(i 5),(s [125]),(i 0),(i 1),(i 11),tt]), true⟩
def t66 : Tr (List Known) := addK t65 k65
theorem s66 : Stage Tryz.prog base t66 := s65.add (by kernel_rfl)
def k66 : Known := ⟨53, [(s [102,32,61,32,92,121,32,45,62,32,121])], (tup [(agg [ns,ns,(psl 1 4 [(s [102]),(psl 1 2 [ns,(psl 1 10 [ns,(i 5),es,(i 0),(psl 1 1 [(s [121])]),(psl 1 9 [(i 1),(s [121]),(i 0),ns,ns,ns,ns,(i 1),(i 11)]),ns,ns,(i 1),(i 5)])]),(i 1),(i 1)])]),(agg [(i 0),(i 0),(i 0)])]), true⟩
def t67 : Tr (List Known) := addK t66 k66
theorem s67 : Stage Tryz.prog base t67 := s66.add (by kernel_rfl)
def k67 : Known := ⟨165, [(s [121])], (tup [(psl 1 6 [(i 1),(s [121]),(i 0),(i 1),(i 1),ff]),(agg [(i 0),(i 0),(i 0)])]), true⟩
def t68 : Tr (List Known) := addK t67 k67
theorem s68 : Stage Tryz.prog base t68 := s67.add (by kernel_rfl)
def k68 : Known := ⟨400, [(s [121])], (tup [(agg [(i 1),(s [121]),(i 0),(i 1),(i 1),ff]),tt]), true⟩
def t69 : Tr (List Known) := addK t68 k68
theorem s69 : Stage Tryz.prog base t69 := s68.add (by kernel_rfl)
def k69 : Known := ⟨352, [(s [121]),(i 1)], tt, true⟩
def t70 : Tr (List Known) := addK t69 k69
theorem s70 : Stage Tryz.prog base t70 := s69.add (by kernel_rfl)
def k70 : Known := ⟨174, [(agg [ns,ns,(psl 1 4 [(s [102]),(psl 1 2 [ns,(psl 1 10 [ns,(i 5),es,(i 0),(psl 1 1 [(s [121])]),(psl 1 9 [(i 1),(s [121]),(i 0),ns,ns,ns,ns,(i 1),(i 11)]),ns,ns,(i 1),(i 5)])]),(i 1),(i 1)])])], (agg [(i 0),(i 0),(i 0)]), true⟩
def t71 : Tr (List Known) := addK t70 k70
theorem s71 : Stage Tryz.prog base t71 := s70.add (by kernel_rfl)
def k71 : Known := ⟨243, [(psl 1 4 [(s [102]),(psl 1 2 [ns,(psl 1 10 [ns,(i 5),es,(i 0),(psl 1 1 [(s [121])]),(psl 1 9 [(i 1),(s [121]),(i 0),ns,ns,ns,ns,(i 1),(i 11)]),ns,ns,(i 1),(i 5)])]),(i 1),(i 1)])], (psl 1 1 [(psl 1 1 [(i 0)])]), true⟩
def t72 : Tr (List Known) := addK t71 k71
theorem s72 : Stage Tryz.prog base t72 := s71.add (by kernel_rfl)
def k72 : Known := ⟨374, [(agg [(i 3),(i 0),es,(psl 2 4 [(i 1),(i 2),es,ns,(i 1),(i 2),es,ns])])], tt, true⟩
def t73 : Tr (List Known) := addK t72 k72
theorem s73 : Stage Tryz.prog base t73 := s72.add (by kernel_rfl)
def k73 : Known := ⟨99, [(agg [ns,ns,(psl 1 4 [(s [102]),(psl 1 2 [ns,(psl 1 10 [ns,(i 5),es,(i 0),(psl 1 1 [(s [121])]),(psl 1 9 [(i 1),(s [121]),(i 0),ns,ns,ns,ns,(i 1),(i 11)]),ns,ns,(i 1),(i 5)])]),(i 1),(i 1)])])], (tup [(agg [(psl 1 4 [(psl 1 1 [(i 0)]),(psl 1 1 [(i 2)]),(psl 1 4 [(i 3),(i 0),es,(psl 2 4 [(i 1),(i 2),es,ns,(i 1),(i 2),es,ns])]),(psl 1 1 [(psl 1 2 [ns,(psl 1 9 [ns,(i 3),(i 0),es,(psl 2 4 [(i 1),(i 2),es,ns,(i 1),(i 2),es,ns]),ns,(psl 1 8 [(i 1),(i 2),es,ns,ns,ns,ns,ns]),ns,ns])])])])]),(agg [(i 0),(i 0),(i 0)])]), false⟩
def t74 : Tr (List Known) := addK t73 k73
theorem s74 : Stage Tryz.prog base t74 := s73.add (by kernel_rfl)
def k74 : Known := ⟨54, [(agg [ns,ns,(psl 1 4 [(s [102]),(psl 1 2 [ns,(psl 1 10 [ns,(i 5),es,(i 0),(psl 1 1 [(s [121])]),(psl 1 9 [(i 1),(s [121]),(i 0),ns,ns,ns,ns,(i 1),(i 11)]),ns,ns,(i 1),(i 5)])]),(i 1),(i 1)])])], (tup [(psl 1 10 [(s [102]),(i 6),es,(i 0),(i 0),(psl 1 1 [(s [35,48])]),(psl 1 9 [(i 1),(s [35,48]),(i 0),(i 0),ns,ns,ns,ns,ns]),ns,ns,ns]),(agg [(i 0),(i 0),(i 0)])]), true⟩
def t75 : Tr (List Known) := addK t74 k74
theorem s75 : Stage Tryz.prog base t75 := s74.add (by kernel_rfl)
def k75 : Known := ⟨56, [(psl 1 10 [(s [102]),(i 6),es,(i 0),(i 0),(psl 1 1 [(s [35,48])]),(psl 1 9 [(i 1),(s [35,48]),(i 0),(i 0),ns,ns,ns,ns,ns]),ns,ns,ns])], (tup [(psl 1 11 [(s [102]),(psl 1 1 [(s [35,48])]),(i 1),(s [35,48]),(i 0),(i 0),ns,ns,ns,ns,ns]),(i 0)]), true⟩
def t76 : Tr (List Known) := addK t75 k75
theorem s76 : Stage Tryz.prog base t76 := s75.add (by kernel_rfl)
def k76 : Known := ⟨37, [(psl 1 11 [(s [102]),(psl 1 1 [(s [35,48])]),(i 1),(s [35,48]),(i 0),(i 0),ns,ns,ns,ns,ns]),(psl 2 5 [(s [70,97,108,115,101]),(s [66,111,111,108]),(i 0),(i 0),ns,(s [84,114,117,101]),(s [66,111,111,108]),(i 1),(i 0),ns])], (tup [(psl 14 4 [(s [102]),(i 1),ff,(psl 4 4 [(i 1),(i 0),(i 0),ns,(i 5),(i 1),(i 0),ns,(i 6),(i 1),(i 0),ns,(i 10),(i 0),(i 0),ns]),(s [70,97,108,115,101]),(i 0),tt,(psl 4 4 [(i 11),(i 0),(i 0),ns,(i 5),(i 0),(i 0),ns,(i 6),(i 0),(i 0),ns,(i 10),(i 0),(i 0),ns]),(s [84,114,117,101]),(i 0),tt,(psl 4 4 [(i 11),(i 0),(i 1),ns,(i 5),(i 0),(i 0),ns,(i 6),(i 0),(i 0),ns,(i 10),(i 0),(i 0),ns]),(s [43]),(i 2),ff,(psl 8 4 [(i 1),(i 0),(i 0),ns,(i 9),(i 0),(i 0),ns,(i 1),(i 2),(i 0),ns,(i 9),(i 0),(i 0),ns,(i 16),(i 0),(i 1),ns,(i 5),(i 2),(i 0),ns,(i 6),(i 2),(i 0),ns,(i 10),(i 0),(i 0),ns]),(s [45]),(i 2),ff,(psl 8 4 [(i 1),(i 0),(i 0),ns,(i 9),(i 0),(i 0),ns,(i 1),(i 2),(i 0),ns,(i 9),(i 0),(i 0),ns,(i 16),(i 0),(i 2),ns,(i 5),(i 2),(i 0),ns,(i 6),(i 2),(i 0),ns,(i 10),(i 0),(i 0),ns]),(s [42]),(i 2),ff,(psl 8 4 [(i 1),(i 0),(i 0),ns,(i 9),(i 0),(i 0),ns,(i 1),(i 2),(i 0),ns,(i 9),(i 0),(i 0),ns,(i 16),(i 0),(i 3),ns,(i 5),(i 2),(i 0),ns,(i 6),(i 2),(i 0),ns,(i 10),(i 0),(i 0),ns]),(s [47]),(i 2),ff,(psl 8 4 [(i 1),(i 0),(i 0),ns,(i 9),(i 0),(i 0),ns,(i 1),(i 2),(i 0),ns,(i 9),(i 0),(i 0),ns,(i 16),(i 0),(i 4),ns,(i 5),(i 2),(i 0),ns,(i 6),(i 2),(i 0),ns,(i 10),(i 0),(i 0),ns]),(s [37]),(i 2),ff,(psl 8 4 [(i 1),(i 0),(i 0),ns,(i 9),(i 0),(i 0),ns,(i 1),(i 2),(i 0),ns,(i 9),(i 0),(i 0),ns,(i 16),(i 0),(i 5),ns,(i 5),(i 2),(i 0),ns,(i 6),(i 2),(i 0),ns,(i 10),(i 0),(i 0),ns]),(s [61,61]),(i 2),ff,(psl 8 4 [(i 1),(i 0),(i 0),ns,(i 9),(i 0),(i 0),ns,(i 1),(i 2),(i 0),ns,(i 9),(i 0),(i 0),ns,(i 16),(i 0),(i 6),ns,(i 5),(i 2),(i 0),ns,(i 6),(i 2),(i 0),ns,(i 10),(i 0),(i 0),ns]),(s [47,61]),(i 2),ff,(psl 8 4 [(i 1),(i 0),(i 0),ns,(i 9),(i 0),(i 0),ns,(i 1),(i 2),(i 0),ns,(i 9),(i 0),(i 0),ns,(i 16),(i 0),(i 7),ns,(i 5),(i 2),(i 0),ns,(i 6),(i 2),(i 0),ns,(i 10),(i 0),(i 0),ns]),(s [60]),(i 2),ff,(psl 8 4 [(i 1),(i 0),(i 0),ns,(i 9),(i 0),(i 0),ns,(i 1),(i 2),(i 0),ns,(i 9),(i 0),(i 0),ns,(i 16),(i 0),(i 8),ns,(i 5),(i 2),(i 0),ns,(i 6),(i 2),(i 0),ns,(i 10),(i 0),(i 0),ns]),(s [60,61]),(i 2),ff,(psl 8 4 [(i 1),(i 0),(i 0),ns,(i 9),(i 0),(i 0),ns,(i 1),(i 2),(i 0),ns,(i 9),(i 0),(i 0),ns,(i 16),(i 0),(i 9),ns,(i 5),(i 2),(i 0),ns,(i 6),(i 2),(i 0),ns,(i 10),(i 0),(i 0),ns]),(s [62]),(i 2),ff,(psl 8 4 [(i 1),(i 0),(i 0),ns,(i 9),(i 0),(i 0),ns,(i 1),(i 2),(i 0),ns,(i 9),(i 0),(i 0),ns,(i 16),(i 0),(i 10),ns,(i 5),(i 2),(i 0),ns,(i 6),(i 2),(i 0),ns,(i 10),(i 0),(i 0),ns]),(s [62,61]),(i 2),ff,(psl 8 4 [(i 1),(i 0),(i 0),ns,(i 9),(i 0),(i 0),ns,(i 1),(i 2),(i 0),ns,(i 9),(i 0),(i 0),ns,(i 16),(i 0),(i 11),ns,(i 5),(i 2),(i 0),ns,(i 6),(i 2),(i 0),ns,(i 10),(i 0),(i 0),ns])]),(i 0)]), true⟩
def t77 : Tr (List Known) := addK t76 k76
theorem s77 : Stage Tryz.prog base t77 := s76.add (by kernel_rfl)
end
end Go.Proofs.YtkhhpnngpelfnaaGreat
