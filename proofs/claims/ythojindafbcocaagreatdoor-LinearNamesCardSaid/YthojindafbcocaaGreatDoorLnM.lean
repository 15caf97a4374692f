/- LinearNames, run in parts: answers that are known. Conditions: none. -/
import Derived.Test.YthojindafbcocaaGreatDoorLnW
set_option maxRecDepth 100000
namespace Go.Proofs.YthojindafbcocaaGreatDoor
open Go Go.Abs Cu
namespace Ln
noncomputable def tabs : List (Nat × List Value) := [(1,((rp 7 a) ++ [(i 1),a,a,a,a,(i 2000),(i 1),(j 0),a,a,a,a,(i 2000),(j 0),a,(i 1)] ++ (rp 6 a) ++ [(j 0),a,a,(i 1),(i 9),a,a,a,(j 0)] ++ (rp 7 a) ++ [(i 1)] ++ (rp 6 a) ++ [(j 0),a,a,a])), (2,[(h 1116352408),(h 1899447441),(h 3049323471),(h 3921009573),(h 961987163),(h 1508970993),(h 2453635748),(h 2870763221),(h 3624381080),(h 310598401),(h 607225278),(h 1426881987),(h 1925078388),(h 2162078206),(h 2614888103),(h 3248222580),(h 3835390401),(h 4022224774),(h 264347078),(h 604807628),(h 770255983),(h 1249150122),(h 1555081692),(h 1996064986),(h 2554220882),(h 2821834349),(h 2952996808),(h 3210313671),(h 3336571891),(h 3584528711),(h 113926993),(h 338241895),(h 666307205),(h 773529912),(h 1294757372),(h 1396182291),(h 1695183700),(h 1986661051),(h 2177026350),(h 2456956037),(h 2730485921),(h 2820302411),(h 3259730800),(h 3345764771),(h 3516065817),(h 3600352804),(h 4094571909),(h 275423344),(h 430227734),(h 506948616),(h 659060556),(h 883997877),(h 958139571),(h 1322822218),(h 1537002063),(h 1747873779),(h 1955562222),(h 2024104815),(h 2227730452),(h 2361852424),(h 2428436474),(h 2756734187),(h 3204031479),(h 3329325298)])]
theorem tabs_ok : TabsOk Tb.glob tabs 3 := ⟨by kernel_rfl, by kernel_rfl, fun g h => by
  have h : (Nat.blt 0 g && Nat.blt g 3) = true := h
  rw [Bool.and_eq_true, blt_iff, blt_iff] at h
  have : g = 1 ∨ g = 2 := by omega
  rcases this with rfl | rfl
  · exact (show memN 1 (tabs.map (·.1)) = true by kernel_rfl)
  · exact (show memN 2 (tabs.map (·.1)) = true by kernel_rfl)⟩
noncomputable def m0 : Memo := ⟨[(ag [(i 1),(i 1),(i 4),(i 2),(i 2),(i 2),(i 1),(i 1),(i 2)])], (.tuple ⟨[(ag [(i 2),(i 4000),(i 2),(i 2),(i 2)]),a]⟩)⟩
noncomputable def m1 : Memo := ⟨[(ag [(i 4),(d [(ag [z,z])]),z,a,z])], a⟩
noncomputable def m2 : Memo := ⟨[(ag [z,z])], a⟩
noncomputable def m3 : Memo := ⟨[(ag [a,z,z,z])], a⟩
noncomputable def m4 : Memo := ⟨[(h 4),(q 1)], (h 4)⟩
noncomputable def m5 : Memo := ⟨[(ag [(h 4),z,(q 1),(u 2),(st [107]),b,a,(q 0),e,(h 0),(h 0)])], a⟩
noncomputable def m6 : Memo := ⟨[(h 4),(q 500000003)], (h 1)⟩
noncomputable def m7 : Memo := ⟨[(h 1),(d [(c 111),(c 4),(c 0),(c 1),(c 2),(c 1),(c 107)])], (.tuple ⟨[(ag [(h 100397872),(h 470287682)]),a]⟩)⟩
noncomputable def m8 : Memo := ⟨[(d [(ag [(d [(c 110),(c 0),(c 0),(c 0),(c 1)])]),(ag [(d [(c 111),(c 4),(c 0),(c 1),(c 2),(c 1),(c 107)])])])], (.tuple ⟨[(ag [(u 176),(u 89),(u 92),(u 54),(u 65),(u 121),(u 168),(u 51),(u 214),(u 201),(u 245),(u 82),(u 69),(u 64),(u 34),(u 206),(u 145),(u 243),(u 7),(u 137),(u 77),(u 153),(u 175),(u 8),(u 159),(u 209),(u 74),(u 24),(u 62),(u 80),(u 215),(u 2)]),a]⟩)⟩
noncomputable def m9 : Memo := ⟨[(h 4),(q 369889810)], (h 920127026)⟩
noncomputable def m10 : Memo := ⟨[(d [(ag [(d [(c 99),(c 54),(c 216),(c 6),(c 50),(c 0),(c 0),(c 0),(c 4)])]),(ag [(d [(c 111),(c 4),(c 0),(c 1),(c 2),(c 1),(c 107)])])])], (.tuple ⟨[(ag [(u 110),(u 208),(u 58),(u 24),(u 144),(u 192),(u 219),(u 83),(u 10),(u 130),(u 137),(u 23),(u 223),(u 199),(u 66),(u 241),(u 243),(u 167),(u 151),(u 34),(u 127),(u 200),(u 62),(u 76),(u 153),(u 248),(u 177),(u 46),(u 153),(u 165),(u 160),(u 90)]),a]⟩)⟩
noncomputable def m11 : Memo := ⟨[(ag [(h 4),z,(q 1),(u 2),(st [107]),b,a,(q 0),e,(h 100397872),(h 470287682)])], a⟩
noncomputable def m12 : Memo := ⟨[(ag [(h 4),z,(q 1),(u 2),(st [107]),b,a,(q 0),e,(h 100397872),(h 470287682)])], (.tuple ⟨[(ag I0),a]⟩)⟩
noncomputable def m13 : Memo := ⟨[(d [(ag [(d [(c 111),(c 4),(c 0),(c 1),(c 2),(c 1),(c 107),(c 251),(c 5),(c 251),(c 243),(c 48),(c 251),(c 28),(c 8),(c 5),(c 66)])])])], (.tuple ⟨[(ag I0),a]⟩)⟩
noncomputable def m14 : Memo := ⟨[(ag [(h 4),(.slice (ad 1 0) 0 0),(q 1),(u 2),(st [107]),b,a,(q 0),e,(h 100397872),(h 470287682)])], a⟩
noncomputable def m15 : Memo := ⟨[(ag [(h 4),(.slice (ad 1 0) 0 0),(q 1),(u 2),(st [107]),b,a,(q 0),e,(h 100397872),(h 470287682)])], a⟩
noncomputable def m16 : Memo := ⟨[(ag [(h 4),(.slice (ad 1 0) 0 0),(q 1),(u 2),(st [107]),b,a,(q 0),e,(h 0),(h 0)])], a⟩
noncomputable def m17 : Memo := ⟨[(h 4),(d [(c 111),(c 4),(c 0),(c 1),(c 2),(c 1),(c 107)]),(ag [(h 100397872),(h 470287682)])], a⟩
noncomputable def m18 : Memo := ⟨[(h 4),(q 399602131)], (h 863402883)⟩
noncomputable def m19 : Memo := ⟨[(h 4),(q 470287682)], (h 509300954)⟩
noncomputable def m20 : Memo := ⟨[(h 509300954),(q 500000003)], (h 1)⟩
noncomputable def m21 : Memo := ⟨[(h 863402883),(q 500000003)], (h 1)⟩
noncomputable def m22 : Memo := ⟨[(ag [(h 4),(.slice (ad 1 0) 0 0),(q 1),(u 2),(st [107]),b,a,(q 0),e,(h 100397872),(h 470287682)])], (.tuple ⟨[(ag I0),a]⟩)⟩
noncomputable def m23 : Memo := ⟨[(ag [(d [(ag [z,z])]),z,a])], a⟩
noncomputable def m24 : Memo := ⟨[(ag [(i 1),(d [(ag [(st [107]),(u 14),(u 1),(u 146),(u 171),(u 236),(u 90),(u 182),(u 84),(u 104),(u 17),(u 58),(u 151),(u 250),(u 81),(u 44),(u 66),(u 150),(u 41),(u 8),(u 207),(u 54),(u 75),(u 146),(u 59),(u 79),(u 188),(u 213),(u 183),(u 207),(u 238),(u 145),(u 36)])]),z,(d [(ag I0)])])], a⟩
noncomputable def m25 : Memo := ⟨[(d [(ag [(u 1),a,(u 2),z,(u 2),(st [107]),b,a,(q 0),e,(q 1),e,(d [(c 111),(c 4),(c 0),(c 1),(c 2),(c 1),(c 107),(c 251),(c 5),(c 251),(c 243),(c 48),(c 251),(c 28),(c 8),(c 5),(c 66)]),a,a,a,(i 2),(i 3),(i 9),(i 12),(u 1),(u 14),(u 1),(u 146),(u 171),(u 236),(u 90),(u 182),(u 84),(u 104),(u 17),(u 58),(u 151),(u 250),(u 81),(u 44),(u 66),(u 150),(u 41),(u 8),(u 207),(u 54),(u 75),(u 146),(u 59),(u 79),(u 188),(u 213),(u 183),(u 207),(u 238),(u 145),(u 36),(i 1),ff,b,a,(q 0),e,z,a]),(ag ([(u 1),(i 1),(u 3),z,b,e,b,a,(q 0),e,(q 0),(st [107]),z,a,(j 0),(i 1),(i 8),(j 0),(j 0),(i 11)] ++ (rp 33 b) ++ [a,ff,b,a,(q 0),e,z,a]))])], a⟩
noncomputable def m26 : Memo := ⟨[(d [(ag ([b,a,b,z,b,e,b,a,(q 0),e,(q 0),e,z,a,a,(j 0),a,a,a,a] ++ (rp 33 b) ++ [a,ff,b,a,(q 0),e,z,a]))])], (i 8)⟩
noncomputable def m27 : Memo := ⟨[(ag (rp 9 a))], (.tuple ⟨[(ag [a,a,a,a,a]),(i 8)]⟩)⟩
noncomputable def m28 : Memo := ⟨[z], a⟩
noncomputable def m29 : Memo := ⟨[(h 4),(q 2)], (h 16)⟩
noncomputable def m30 : Memo := ⟨[(ag [(h 16),z,(q 1),(u 2),(st [107]),b,a,(q 0),e,(h 0),(h 0)])], a⟩
noncomputable def m31 : Memo := ⟨[(h 16),(q 500000003)], (h 1)⟩
noncomputable def m32 : Memo := ⟨[(h 2),(d [(c 111),(c 16),(c 0),(c 1),(c 2),(c 1),(c 107)])], (.tuple ⟨[(ag [(h 184521795),(h 475938669)]),a]⟩)⟩
noncomputable def m33 : Memo := ⟨[(d [(ag [(d [(c 110),(c 0),(c 0),(c 0),(c 2)])]),(ag [(d [(c 111),(c 16),(c 0),(c 1),(c 2),(c 1),(c 107)])])])], (.tuple ⟨[(ag [(u 40),(u 169),(u 143),(u 223),(u 137),(u 104),(u 110),(u 146),(u 87),(u 49),(u 131),(u 79),(u 167),(u 47),(u 177),(u 189),(u 101),(u 110),(u 118),(u 40),(u 182),(u 208),(u 176),(u 38),(u 211),(u 177),(u 78),(u 72),(u 8),(u 245),(u 238),(u 139)]),a]⟩)⟩
noncomputable def m34 : Memo := ⟨[(h 4),(q 106895079)], (h 547651041)⟩
noncomputable def m35 : Memo := ⟨[(d [(ag [(d [(c 99),(c 32),(c 164),(c 125),(c 225),(c 0),(c 0),(c 0),(c 16)])]),(ag [(d [(c 111),(c 16),(c 0),(c 1),(c 2),(c 1),(c 107)])])])], (.tuple ⟨[(ag [(u 112),(u 112),(u 172),(u 185),(u 154),(u 82),(u 2),(u 95),(u 141),(u 70),(u 141),(u 236),(u 127),(u 135),(u 49),(u 166),(u 56),(u 42),(u 227),(u 31),(u 148),(u 158),(u 164),(u 236),(u 25),(u 36),(u 85),(u 231),(u 41),(u 34),(u 16),(u 150)]),a]⟩)⟩
noncomputable def m36 : Memo := ⟨[(ag [(h 16),z,(q 1),(u 2),(st [107]),b,a,(q 0),e,(h 184521795),(h 475938669)])], a⟩
noncomputable def m37 : Memo := ⟨[(ag [(h 16),z,(q 1),(u 2),(st [107]),b,a,(q 0),e,(h 184521795),(h 475938669)])], (.tuple ⟨[(ag [(u 110),(u 43),(u 74),(u 91),(u 175),(u 151),(u 104),(u 98),(u 44),(u 216),(u 171),(u 169),(u 146),(u 103),(u 210),(u 221),(u 160),(u 29),(u 19),(u 202),(u 64),(u 168),(u 208),(u 150),(u 211),(u 97),(u 13),(u 3),(u 10),(u 131),(u 40),(u 114)]),a]⟩)⟩
noncomputable def m38 : Memo := ⟨[(d [(ag [(d [(c 111),(c 16),(c 0),(c 1),(c 2),(c 1),(c 107),(c 251),(c 10),(c 255),(c 148),(c 67),(c 251),(c 28),(c 94),(c 63),(c 109)])])])], (.tuple ⟨[(ag [(u 110),(u 43),(u 74),(u 91),(u 175),(u 151),(u 104),(u 98),(u 44),(u 216),(u 171),(u 169),(u 146),(u 103),(u 210),(u 221),(u 160),(u 29),(u 19),(u 202),(u 64),(u 168),(u 208),(u 150),(u 211),(u 97),(u 13),(u 3),(u 10),(u 131),(u 40),(u 114)]),a]⟩)⟩
noncomputable def ms1 : List (Nat × List Memo) := [(48, [m0, m27]), (252, [m2]), (101, [m3, m24]), (393, [m4, m6, m9, m18, m19, m20, m21, m29, m31, m34]), (326, [m8, m10, m13, m33, m35, m38]), (20, [m25, m26, m28])]
noncomputable def mt1 : Tr (List Memo) := (.node (.node .leaf none (.node (.node .leaf none (.node (.node (.node (.node .leaf none (.node .leaf (some [m4, m6, m9, m18, m19, m20, m21, m29, m31, m34]) .leaf)) none .leaf) none .leaf) none .leaf)) none (.node (.node (.node .leaf none (.node .leaf (some [m3, m24]) .leaf)) none .leaf) none .leaf))) none (.node (.node (.node (.node .leaf none (.node .leaf (some [m0, m27]) .leaf)) none .leaf) none (.node (.node .leaf (some [m25, m26, m28]) .leaf) none (.node .leaf none (.node .leaf none (.node .leaf none (.node .leaf (some [m2]) .leaf)))))) none (.node .leaf none (.node (.node (.node (.node .leaf none (.node (.node .leaf (some [m8, m10, m13, m33, m35, m38]) .leaf) none .leaf)) none .leaf) none .leaf) none .leaf))))
theorem mt1_eq : mt1 = mkTr ms1 := by kernel_rfl
noncomputable def sp1 : CallF := orC cm (memoC tabs mt1)
noncomputable def ms2 : List (Nat × List Memo) := [(48, [m0, m27]), (161, [m1]), (252, [m2]), (101, [m3, m24]), (393, [m4, m6, m9, m18, m19, m20, m21, m29, m31, m34]), (224, [m5, m11, m14, m16, m30, m36]), (223, [m7, m32]), (326, [m8, m10, m13, m33, m35, m38]), (241, [m17]), (383, [m23]), (20, [m25, m26, m28])]
noncomputable def mt2 : Tr (List Memo) := (.node (.node (.node (.node (.node (.node (.node (.node .leaf none (.node .leaf (some [m23]) .leaf)) none .leaf) none (.node .leaf none (.node .leaf (some [m7, m32]) .leaf))) none .leaf) none .leaf) none .leaf) none (.node (.node (.node (.node .leaf none (.node (.node .leaf (some [m1]) .leaf) none .leaf)) none (.node .leaf none (.node .leaf none (.node .leaf (some [m17]) .leaf)))) none (.node (.node (.node (.node .leaf none (.node .leaf (some [m4, m6, m9, m18, m19, m20, m21, m29, m31, m34]) .leaf)) none .leaf) none .leaf) none .leaf)) none (.node (.node (.node .leaf none (.node .leaf (some [m3, m24]) .leaf)) none .leaf) none .leaf))) none (.node (.node (.node (.node (.node .leaf none (.node .leaf none (.node .leaf (some [m5, m11, m14, m16, m30, m36]) .leaf))) none (.node .leaf (some [m0, m27]) .leaf)) none .leaf) none (.node (.node .leaf (some [m25, m26, m28]) .leaf) none (.node .leaf none (.node .leaf none (.node .leaf none (.node .leaf (some [m2]) .leaf)))))) none (.node .leaf none (.node (.node (.node (.node .leaf none (.node (.node .leaf (some [m8, m10, m13, m33, m35, m38]) .leaf) none .leaf)) none .leaf) none .leaf) none .leaf))))
theorem mt2_eq : mt2 = mkTr ms2 := by kernel_rfl
noncomputable def sp2 : CallF := orC cm (memoC tabs mt2)
noncomputable def ms3 : List (Nat × List Memo) := [(48, [m0, m27]), (161, [m1]), (252, [m2]), (101, [m3, m24]), (393, [m4, m6, m9, m18, m19, m20, m21, m29, m31, m34]), (224, [m5, m11, m14, m16, m30, m36]), (223, [m7, m32]), (326, [m8, m10, m13, m33, m35, m38]), (152, [m12, m22, m37]), (163, [m15]), (241, [m17]), (383, [m23]), (20, [m25, m26, m28])]
noncomputable def mt3 : Tr (List Memo) := (.node (.node (.node (.node (.node (.node (.node (.node .leaf none (.node .leaf (some [m23]) .leaf)) none .leaf) none (.node .leaf none (.node .leaf (some [m7, m32]) .leaf))) none .leaf) none .leaf) none (.node (.node (.node .leaf none (.node (.node .leaf (some [m15]) .leaf) none .leaf)) none .leaf) none .leaf)) none (.node (.node (.node (.node .leaf none (.node (.node .leaf (some [m1]) .leaf) none .leaf)) none (.node .leaf none (.node .leaf none (.node .leaf (some [m17]) .leaf)))) none (.node (.node (.node (.node .leaf none (.node .leaf (some [m4, m6, m9, m18, m19, m20, m21, m29, m31, m34]) .leaf)) none .leaf) none .leaf) none .leaf)) none (.node (.node (.node .leaf none (.node .leaf (some [m3, m24]) .leaf)) none .leaf) none .leaf))) none (.node (.node (.node (.node (.node .leaf none (.node .leaf none (.node .leaf (some [m5, m11, m14, m16, m30, m36]) .leaf))) none (.node .leaf (some [m0, m27]) .leaf)) none (.node .leaf none (.node (.node (.node .leaf (some [m12, m22, m37]) .leaf) none .leaf) none .leaf))) none (.node (.node .leaf (some [m25, m26, m28]) .leaf) none (.node .leaf none (.node .leaf none (.node .leaf none (.node .leaf (some [m2]) .leaf)))))) none (.node .leaf none (.node (.node (.node (.node .leaf none (.node (.node .leaf (some [m8, m10, m13, m33, m35, m38]) .leaf) none .leaf)) none .leaf) none .leaf) none .leaf))))
theorem mt3_eq : mt3 = mkTr ms3 := by kernel_rfl
noncomputable def sp3 : CallF := orC cm (memoC tabs mt3)
end Ln
end Go.Proofs.YthojindafbcocaaGreatDoor
