import Derived.KernelRfl
import Derived.Test.YtkhhpnngpelfnaaGreatProg
import Derived.Test.YtkhhpnngpelfnaaGreatEv2
namespace Go.Proofs.YtkhhpnngpelfnaaGreat
open Go Go.Ev Go.Ev.W
noncomputable section
variable [Tok]
def base : CallFn := noH
theorem base_ok : CallOK Tryz.prog base := noH_ok _
omit [Tok] in
theorem prog_ok : progOk Tryz.prog := progOk_of (by kernel_rfl)
def t0 : Tr (List Known) := .nil
theorem s0 : Stage Tryz.prog base t0 := ⟨by kernel_rfl, prog_ok, base_ok, AllOK.nil _⟩
def k0 : Known := ⟨165, [(s [102,32,61,32,49])], (tup [(psl 3 6 [(i 1),(s [102]),(i 0),(i 1),(i 1),ff,(i 5),(s [61]),(i 0),(i 1),(i 3),ff,(i 4),(s [49]),(i 1),(i 1),(i 5),ff]),(agg [(i 0),(i 0),(i 0)])]), true⟩
def t1 : Tr (List Known) := addK t0 k0
theorem s1 : Stage Tryz.prog base t1 := s0.add (by kernel_rfl)
def k1 : Known := ⟨166, [(psl 3 6 [(i 1),(s [102]),(i 0),(i 1),(i 1),ff,(i 5),(s [61]),(i 0),(i 1),(i 3),ff,(i 4),(s [49]),(i 1),(i 1),(i 5),ff])], (psl 5 6 [(i 5),(s [123]),(i 0),(i 1),(i 1),tt,(i 1),(s [102]),(i 0),(i 1),(i 1),ff,(i 5),(s [61]),(i 0),(i 1),(i 3),ff,(i 4),(s [49]),(i 1),(i 1),(i 5),ff,(i 5),(s [125]),(i 0),(i 1),(i 5),tt]), true⟩
def t2 : Tr (List Known) := addK t1 k1
theorem s2 : Stage Tryz.prog base t2 := s1.add (by kernel_rfl)
def k2 : Known := ⟨53, [(s [102,32,61,32,49])], (tup [(agg [ns,ns,(psl 1 4 [(s [102]),(psl 1 2 [ns,(psl 1 10 [ns,(i 3),es,(i 1),ns,ns,ns,ns,(i 1),(i 5)])]),(i 1),(i 1)])]),(agg [(i 0),(i 0),(i 0)])]), true⟩
def t3 : Tr (List Known) := addK t2 k2
theorem s3 : Stage Tryz.prog base t3 := s2.add (by kernel_rfl)
def k3 : Known := ⟨165, [(s [102])], (tup [(psl 1 6 [(i 1),(s [102]),(i 0),(i 1),(i 1),ff]),(agg [(i 0),(i 0),(i 0)])]), true⟩
def t4 : Tr (List Known) := addK t3 k3
theorem s4 : Stage Tryz.prog base t4 := s3.add (by kernel_rfl)
def k4 : Known := ⟨400, [(s [102])], (tup [(agg [(i 1),(s [102]),(i 0),(i 1),(i 1),ff]),tt]), true⟩
def t5 : Tr (List Known) := addK t4 k4
theorem s5 : Stage Tryz.prog base t5 := s4.add (by kernel_rfl)
def k5 : Known := ⟨352, [(s [102]),(i 1)], tt, true⟩
def t6 : Tr (List Known) := addK t5 k5
theorem s6 : Stage Tryz.prog base t6 := s5.add (by kernel_rfl)
def k6 : Known := ⟨151, [(i 1)], (s [43]), true⟩
def t7 : Tr (List Known) := addK t6 k6
theorem s7 : Stage Tryz.prog base t7 := s6.add (by kernel_rfl)
def k7 : Known := ⟨151, [(i 2)], (s [45]), true⟩
def t8 : Tr (List Known) := addK t7 k7
theorem s8 : Stage Tryz.prog base t8 := s7.add (by kernel_rfl)
def k8 : Known := ⟨151, [(i 3)], (s [42]), true⟩
def t9 : Tr (List Known) := addK t8 k8
theorem s9 : Stage Tryz.prog base t9 := s8.add (by kernel_rfl)
def k9 : Known := ⟨151, [(i 4)], (s [47]), true⟩
def t10 : Tr (List Known) := addK t9 k9
theorem s10 : Stage Tryz.prog base t10 := s9.add (by kernel_rfl)
def k10 : Known := ⟨151, [(i 5)], (s [37]), true⟩
def t11 : Tr (List Known) := addK t10 k10
theorem s11 : Stage Tryz.prog base t11 := s10.add (by kernel_rfl)
def k11 : Known := ⟨151, [(i 6)], (s [61,61]), true⟩
def t12 : Tr (List Known) := addK t11 k11
theorem s12 : Stage Tryz.prog base t12 := s11.add (by kernel_rfl)
def k12 : Known := ⟨151, [(i 7)], (s [47,61]), true⟩
def t13 : Tr (List Known) := addK t12 k12
theorem s13 : Stage Tryz.prog base t13 := s12.add (by kernel_rfl)
def k13 : Known := ⟨151, [(i 8)], (s [60]), true⟩
def t14 : Tr (List Known) := addK t13 k13
theorem s14 : Stage Tryz.prog base t14 := s13.add (by kernel_rfl)
def k14 : Known := ⟨151, [(i 9)], (s [60,61]), true⟩
def t15 : Tr (List Known) := addK t14 k14
theorem s15 : Stage Tryz.prog base t15 := s14.add (by kernel_rfl)
def k15 : Known := ⟨151, [(i 10)], (s [62]), true⟩
def t16 : Tr (List Known) := addK t15 k15
theorem s16 : Stage Tryz.prog base t16 := s15.add (by kernel_rfl)
def k16 : Known := ⟨151, [(i 11)], (s [62,61]), true⟩
def t17 : Tr (List Known) := addK t16 k16
theorem s17 : Stage Tryz.prog base t17 := s16.add (by kernel_rfl)
def k17 : Known := ⟨174, [(agg [ns,ns,(psl 1 4 [(s [102]),(psl 1 2 [ns,(psl 1 10 [ns,(i 3),es,(i 1),ns,ns,ns,ns,(i 1),(i 5)])]),(i 1),(i 1)])])], (agg [(i 0),(i 0),(i 0)]), true⟩
def t18 : Tr (List Known) := addK t17 k17
theorem s18 : Stage Tryz.prog base t18 := s17.add (by kernel_rfl)
def k18 : Known := ⟨243, [(psl 1 4 [(s [102]),(psl 1 2 [ns,(psl 1 10 [ns,(i 3),es,(i 1),ns,ns,ns,ns,(i 1),(i 5)])]),(i 1),(i 1)])], (psl 1 1 [(psl 1 1 [(i 0)])]), true⟩
def t19 : Tr (List Known) := addK t18 k18
theorem s19 : Stage Tryz.prog base t19 := s18.add (by kernel_rfl)
def k19 : Known := ⟨374, [(agg [(i 1),(i 0),es,ns])], tt, true⟩
def t20 : Tr (List Known) := addK t19 k19
theorem s20 : Stage Tryz.prog base t20 := s19.add (by kernel_rfl)
def k20 : Known := ⟨374, [(agg [(i 1),(i 1),es,ns])], tt, true⟩
def t21 : Tr (List Known) := addK t20 k20
theorem s21 : Stage Tryz.prog base t21 := s20.add (by kernel_rfl)
def k21 : Known := ⟨374, [(agg [(i 2),(i 0),(s [73,110,116]),ns])], tt, true⟩
def t22 : Tr (List Known) := addK t21 k21
theorem s22 : Stage Tryz.prog base t22 := s21.add (by kernel_rfl)
def k22 : Known := ⟨99, [(agg [ns,ns,(psl 1 4 [(s [102]),(psl 1 2 [ns,(psl 1 10 [ns,(i 3),es,(i 1),ns,ns,ns,ns,(i 1),(i 5)])]),(i 1),(i 1)])])], (tup [(agg [(psl 1 4 [(psl 1 1 [(i 0)]),ns,(psl 1 4 [(i 2),(i 0),(s [73,110,116]),ns]),(psl 1 1 [(psl 1 2 [ns,(psl 1 9 [ns,(i 2),(i 0),(s [73,110,116]),ns,ns,ns,ns,ns])])])])]),(agg [(i 0),(i 0),(i 0)])]), false⟩
def t23 : Tr (List Known) := addK t22 k22
theorem s23 : Stage Tryz.prog base t23 := s22.add (by kernel_rfl)
def k23 : Known := ⟨54, [(agg [ns,ns,(psl 1 4 [(s [102]),(psl 1 2 [ns,(psl 1 10 [ns,(i 3),es,(i 1),ns,ns,ns,ns,(i 1),(i 5)])]),(i 1),(i 1)])])], (tup [(psl 1 10 [(s [102]),(i 3),es,(i 1),(i 0),ns,ns,ns,ns,ns]),(agg [(i 0),(i 0),(i 0)])]), true⟩
def t24 : Tr (List Known) := addK t23 k23
theorem s24 : Stage Tryz.prog base t24 := s23.add (by kernel_rfl)
def k24 : Known := ⟨56, [(psl 1 10 [(s [102]),(i 3),es,(i 1),(i 0),ns,ns,ns,ns,ns])], (tup [(psl 1 11 [(s [102]),ns,(i 3),es,(i 1),(i 0),ns,ns,ns,ns,ns]),(i 0)]), true⟩
def t25 : Tr (List Known) := addK t24 k24
theorem s25 : Stage Tryz.prog base t25 := s24.add (by kernel_rfl)
def k25 : Known := ⟨37, [(psl 1 11 [(s [102]),ns,(i 3),es,(i 1),(i 0),ns,ns,ns,ns,ns]),(psl 2 5 [(s [70,97,108,115,101]),(s [66,111,111,108]),(i 0),(i 0),ns,(s [84,114,117,101]),(s [66,111,111,108]),(i 1),(i 0),ns])], (tup [(psl 14 4 [(s [102]),(i 0),ff,(psl 4 4 [(i 3),(i 0),(i 1),ns,(i 5),(i 0),(i 0),ns,(i 6),(i 0),(i 0),ns,(i 10),(i 0),(i 0),ns]),(s [70,97,108,115,101]),(i 0),tt,(psl 4 4 [(i 11),(i 0),(i 0),ns,(i 5),(i 0),(i 0),ns,(i 6),(i 0),(i 0),ns,(i 10),(i 0),(i 0),ns]),(s [84,114,117,101]),(i 0),tt,(psl 4 4 [(i 11),(i 0),(i 1),ns,(i 5),(i 0),(i 0),ns,(i 6),(i 0),(i 0),ns,(i 10),(i 0),(i 0),ns]),(s [43]),(i 2),ff,(psl 8 4 [(i 1),(i 0),(i 0),ns,(i 9),(i 0),(i 0),ns,(i 1),(i 2),(i 0),ns,(i 9),(i 0),(i 0),ns,(i 16),(i 0),(i 1),ns,(i 5),(i 2),(i 0),ns,(i 6),(i 2),(i 0),ns,(i 10),(i 0),(i 0),ns]),(s [45]),(i 2),ff,(psl 8 4 [(i 1),(i 0),(i 0),ns,(i 9),(i 0),(i 0),ns,(i 1),(i 2),(i 0),ns,(i 9),(i 0),(i 0),ns,(i 16),(i 0),(i 2),ns,(i 5),(i 2),(i 0),ns,(i 6),(i 2),(i 0),ns,(i 10),(i 0),(i 0),ns]),(s [42]),(i 2),ff,(psl 8 4 [(i 1),(i 0),(i 0),ns,(i 9),(i 0),(i 0),ns,(i 1),(i 2),(i 0),ns,(i 9),(i 0),(i 0),ns,(i 16),(i 0),(i 3),ns,(i 5),(i 2),(i 0),ns,(i 6),(i 2),(i 0),ns,(i 10),(i 0),(i 0),ns]),(s [47]),(i 2),ff,(psl 8 4 [(i 1),(i 0),(i 0),ns,(i 9),(i 0),(i 0),ns,(i 1),(i 2),(i 0),ns,(i 9),(i 0),(i 0),ns,(i 16),(i 0),(i 4),ns,(i 5),(i 2),(i 0),ns,(i 6),(i 2),(i 0),ns,(i 10),(i 0),(i 0),ns]),(s [37]),(i 2),ff,(psl 8 4 [(i 1),(i 0),(i 0),ns,(i 9),(i 0),(i 0),ns,(i 1),(i 2),(i 0),ns,(i 9),(i 0),(i 0),ns,(i 16),(i 0),(i 5),ns,(i 5),(i 2),(i 0),ns,(i 6),(i 2),(i 0),ns,(i 10),(i 0),(i 0),ns]),(s [61,61]),(i 2),ff,(psl 8 4 [(i 1),(i 0),(i 0),ns,(i 9),(i 0),(i 0),ns,(i 1),(i 2),(i 0),ns,(i 9),(i 0),(i 0),ns,(i 16),(i 0),(i 6),ns,(i 5),(i 2),(i 0),ns,(i 6),(i 2),(i 0),ns,(i 10),(i 0),(i 0),ns]),(s [47,61]),(i 2),ff,(psl 8 4 [(i 1),(i 0),(i 0),ns,(i 9),(i 0),(i 0),ns,(i 1),(i 2),(i 0),ns,(i 9),(i 0),(i 0),ns,(i 16),(i 0),(i 7),ns,(i 5),(i 2),(i 0),ns,(i 6),(i 2),(i 0),ns,(i 10),(i 0),(i 0),ns]),(s [60]),(i 2),ff,(psl 8 4 [(i 1),(i 0),(i 0),ns,(i 9),(i 0),(i 0),ns,(i 1),(i 2),(i 0),ns,(i 9),(i 0),(i 0),ns,(i 16),(i 0),(i 8),ns,(i 5),(i 2),(i 0),ns,(i 6),(i 2),(i 0),ns,(i 10),(i 0),(i 0),ns]),(s [60,61]),(i 2),ff,(psl 8 4 [(i 1),(i 0),(i 0),ns,(i 9),(i 0),(i 0),ns,(i 1),(i 2),(i 0),ns,(i 9),(i 0),(i 0),ns,(i 16),(i 0),(i 9),ns,(i 5),(i 2),(i 0),ns,(i 6),(i 2),(i 0),ns,(i 10),(i 0),(i 0),ns]),(s [62]),(i 2),ff,(psl 8 4 [(i 1),(i 0),(i 0),ns,(i 9),(i 0),(i 0),ns,(i 1),(i 2),(i 0),ns,(i 9),(i 0),(i 0),ns,(i 16),(i 0),(i 10),ns,(i 5),(i 2),(i 0),ns,(i 6),(i 2),(i 0),ns,(i 10),(i 0),(i 0),ns]),(s [62,61]),(i 2),ff,(psl 8 4 [(i 1),(i 0),(i 0),ns,(i 9),(i 0),(i 0),ns,(i 1),(i 2),(i 0),ns,(i 9),(i 0),(i 0),ns,(i 16),(i 0),(i 11),ns,(i 5),(i 2),(i 0),ns,(i 6),(i 2),(i 0),ns,(i 10),(i 0),(i 0),ns])]),(i 0)]), true⟩
def t26 : Tr (List Known) := addK t25 k25
theorem s26 : Stage Tryz.prog base t26 := s25.add (by kernel_rfl)
def k26 : Known := ⟨22, [(s [102,32,61,32,49])], (tup [(agg [ns,ns,(psl 1 4 [(s [102]),(psl 1 2 [ns,(psl 1 10 [ns,(i 3),es,(i 1),ns,ns,ns,ns,(i 1),(i 5)])]),(i 1),(i 1)])]),(psl 1 11 [(s [102]),ns,(i 3),es,(i 1),(i 0),ns,ns,ns,ns,ns]),(psl 2 5 [(s [70,97,108,115,101]),(s [66,111,111,108]),(i 0),(i 0),ns,(s [84,114,117,101]),(s [66,111,111,108]),(i 1),(i 0),ns]),(cptr [(psl 1 11 [(s [102]),ns,(i 3),es,(i 1),(i 0),ns,ns,ns,ns,ns]),(psl 2 5 [(s [70,97,108,115,101]),(s [66,111,111,108]),(i 0),(i 0),ns,(s [84,114,117,101]),(s [66,111,111,108]),(i 1),(i 0),ns]),(psl 14 4 [(s [102]),(i 0),ff,(psl 4 4 [(i 3),(i 0),(i 1),ns,(i 5),(i 0),(i 0),ns,(i 6),(i 0),(i 0),ns,(i 10),(i 0),(i 0),ns]),(s [70,97,108,115,101]),(i 0),tt,(psl 4 4 [(i 11),(i 0),(i 0),ns,(i 5),(i 0),(i 0),ns,(i 6),(i 0),(i 0),ns,(i 10),(i 0),(i 0),ns]),(s [84,114,117,101]),(i 0),tt,(psl 4 4 [(i 11),(i 0),(i 1),ns,(i 5),(i 0),(i 0),ns,(i 6),(i 0),(i 0),ns,(i 10),(i 0),(i 0),ns]),(s [43]),(i 2),ff,(psl 8 4 [(i 1),(i 0),(i 0),ns,(i 9),(i 0),(i 0),ns,(i 1),(i 2),(i 0),ns,(i 9),(i 0),(i 0),ns,(i 16),(i 0),(i 1),ns,(i 5),(i 2),(i 0),ns,(i 6),(i 2),(i 0),ns,(i 10),(i 0),(i 0),ns]),(s [45]),(i 2),ff,(psl 8 4 [(i 1),(i 0),(i 0),ns,(i 9),(i 0),(i 0),ns,(i 1),(i 2),(i 0),ns,(i 9),(i 0),(i 0),ns,(i 16),(i 0),(i 2),ns,(i 5),(i 2),(i 0),ns,(i 6),(i 2),(i 0),ns,(i 10),(i 0),(i 0),ns]),(s [42]),(i 2),ff,(psl 8 4 [(i 1),(i 0),(i 0),ns,(i 9),(i 0),(i 0),ns,(i 1),(i 2),(i 0),ns,(i 9),(i 0),(i 0),ns,(i 16),(i 0),(i 3),ns,(i 5),(i 2),(i 0),ns,(i 6),(i 2),(i 0),ns,(i 10),(i 0),(i 0),ns]),(s [47]),(i 2),ff,(psl 8 4 [(i 1),(i 0),(i 0),ns,(i 9),(i 0),(i 0),ns,(i 1),(i 2),(i 0),ns,(i 9),(i 0),(i 0),ns,(i 16),(i 0),(i 4),ns,(i 5),(i 2),(i 0),ns,(i 6),(i 2),(i 0),ns,(i 10),(i 0),(i 0),ns]),(s [37]),(i 2),ff,(psl 8 4 [(i 1),(i 0),(i 0),ns,(i 9),(i 0),(i 0),ns,(i 1),(i 2),(i 0),ns,(i 9),(i 0),(i 0),ns,(i 16),(i 0),(i 5),ns,(i 5),(i 2),(i 0),ns,(i 6),(i 2),(i 0),ns,(i 10),(i 0),(i 0),ns]),(s [61,61]),(i 2),ff,(psl 8 4 [(i 1),(i 0),(i 0),ns,(i 9),(i 0),(i 0),ns,(i 1),(i 2),(i 0),ns,(i 9),(i 0),(i 0),ns,(i 16),(i 0),(i 6),ns,(i 5),(i 2),(i 0),ns,(i 6),(i 2),(i 0),ns,(i 10),(i 0),(i 0),ns]),(s [47,61]),(i 2),ff,(psl 8 4 [(i 1),(i 0),(i 0),ns,(i 9),(i 0),(i 0),ns,(i 1),(i 2),(i 0),ns,(i 9),(i 0),(i 0),ns,(i 16),(i 0),(i 7),ns,(i 5),(i 2),(i 0),ns,(i 6),(i 2),(i 0),ns,(i 10),(i 0),(i 0),ns]),(s [60]),(i 2),ff,(psl 8 4 [(i 1),(i 0),(i 0),ns,(i 9),(i 0),(i 0),ns,(i 1),(i 2),(i 0),ns,(i 9),(i 0),(i 0),ns,(i 16),(i 0),(i 8),ns,(i 5),(i 2),(i 0),ns,(i 6),(i 2),(i 0),ns,(i 10),(i 0),(i 0),ns]),(s [60,61]),(i 2),ff,(psl 8 4 [(i 1),(i 0),(i 0),ns,(i 9),(i 0),(i 0),ns,(i 1),(i 2),(i 0),ns,(i 9),(i 0),(i 0),ns,(i 16),(i 0),(i 9),ns,(i 5),(i 2),(i 0),ns,(i 6),(i 2),(i 0),ns,(i 10),(i 0),(i 0),ns]),(s [62]),(i 2),ff,(psl 8 4 [(i 1),(i 0),(i 0),ns,(i 9),(i 0),(i 0),ns,(i 1),(i 2),(i 0),ns,(i 9),(i 0),(i 0),ns,(i 16),(i 0),(i 10),ns,(i 5),(i 2),(i 0),ns,(i 6),(i 2),(i 0),ns,(i 10),(i 0),(i 0),ns]),(s [62,61]),(i 2),ff,(psl 8 4 [(i 1),(i 0),(i 0),ns,(i 9),(i 0),(i 0),ns,(i 1),(i 2),(i 0),ns,(i 9),(i 0),(i 0),ns,(i 16),(i 0),(i 11),ns,(i 5),(i 2),(i 0),ns,(i 6),(i 2),(i 0),ns,(i 10),(i 0),(i 0),ns])]),(i 0),(i 1)])]), false⟩
def t27 : Tr (List Known) := addK t26 k26
theorem s27 : Stage Tryz.prog base t27 := s26.add (by kernel_rfl)
def k27 : Known := ⟨165, [(s [102,32,61,32,49,32,47,32,48])], (tup [(psl 5 6 [(i 1),(s [102]),(i 0),(i 1),(i 1),ff,(i 5),(s [61]),(i 0),(i 1),(i 3),ff,(i 4),(s [49]),(i 1),(i 1),(i 5),ff,(i 3),(s [47]),(i 0),(i 1),(i 7),ff,(i 4),(s [48]),(i 0),(i 1),(i 9),ff]),(agg [(i 0),(i 0),(i 0)])]), true⟩
def t28 : Tr (List Known) := addK t27 k27
theorem s28 : Stage Tryz.prog base t28 := s27.add (by kernel_rfl)
def k28 : Known := ⟨166, [(psl 5 6 [(i 1),(s [102]),(i 0),(i 1),(i 1),ff,(i 5),(s [61]),(i 0),(i 1),(i 3),ff,(i 4),(s [49]),(i 1),(i 1),(i 5),ff,(i 3),(s [47]),(i 0),(i 1),(i 7),ff,(i 4),(s [48]),(i 0),(i 1),(i 9),ff])], (psl 7 6 [(i 5),(s [123]),(i 0),(i 1),(i 1),tt,(i 1),(s [102]),(i 0),(i 1),(i 1),ff,(i 5),(s [61]),(i 0),(i 1),(i 3),ff,(i 4),(s [49]),(i 1),(i 1),(i 5),ff,(i 3),(s [47]),(i 0),(i 1),(i 7),ff,(i 4),(s [48]),(i 0),(i 1),(i 9),ff,(i 5),(s [125]),(i 0),(i 1),(i 9),tt]), true⟩
def t29 : Tr (List Known) := addK t28 k28
theorem s29 : Stage Tryz.prog base t29 := s28.add (by kernel_rfl)
def k29 : Known := ⟨53, [(s [102,32,61,32,49,32,47,32,48])], (tup [(agg [ns,ns,(psl 1 4 [(s [102]),(psl 1 2 [ns,(psl 1 10 [ns,(i 4),es,(i 0),ns,(psl 2 9 [(i 4),es,(i 0),ns,(psl 2 9 [(i 1),(s [47]),(i 0),ns,ns,ns,ns,(i 1),(i 7),(i 3),es,(i 1),ns,ns,ns,ns,(i 1),(i 5)]),ns,ns,(i 1),(i 7),(i 3),es,(i 0),ns,ns,ns,ns,(i 1),(i 9)]),ns,ns,(i 1),(i 7)])]),(i 1),(i 1)])]),(agg [(i 0),(i 0),(i 0)])]), true⟩
def t30 : Tr (List Known) := addK t29 k29
theorem s30 : Stage Tryz.prog base t30 := s29.add (by kernel_rfl)
end
end Go.Proofs.YtkhhpnngpelfnaaGreat
