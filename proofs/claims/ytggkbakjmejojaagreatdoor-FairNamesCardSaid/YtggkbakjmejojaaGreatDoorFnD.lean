/- FairNames, run in parts: the calls that are known. Conditions: none. -/
import Derived.Test.YtggkbakjmejojaaGreatDoorFnS1
set_option maxRecDepth 100000
namespace Go.Proofs.YtggkbakjmejojaaGreatDoor
open Go Go.Abs Cu
namespace Fn
noncomputable def k1228 : Known := ⟨9, [(ag [(i 1),(i 1),(i 4),(i 2),(i 2),(i 2),(i 1),(i 1),(i 2),(h 1),(i 2),z,(.slice (ad 22 0) 1 1),z,(i 4),(.slice (ad 26 0) 1 1),z,a,z,(i 2),z,a,ff,a,z,b,z,a,z,z,z,(i 2),a,z,z,a,z,a]),(i 500)], s1228a, (.tuple ⟨[(ag [(i 1),(i 1),(i 4),(i 2),(i 2),(i 2),(i 1),(i 1),(i 2),(h 1),(i 2),z,(o 2082 48 1 1),z,(i 4),(o 2136 2 1 1),z,a,z,(i 2),z,a,ff,a,z,b,z,a,z,z,z,(i 2),a,z,z,a,z,a]),(i 1),a]⟩), s1228b⟩
noncomputable def k2158 : Known := ⟨7, [(ag [(i 1),(i 1),(i 4),(i 2),(i 2),(i 2),(i 1),(i 1),(i 2),(h 1),(i 2),z,(.slice (ad 22 0) 1 1),z,(i 4),(.slice (ad 26 0) 1 1),z,a,z,(i 2),z,a,ff,a,z,b,z,a,z,z,z,(i 2),a,z,z,a,z,a])], s2158a, (.tuple ⟨[(ag [(i 1),(i 1),(i 4),(i 2),(i 2),(i 2),(i 1),(i 1),(i 2),(h 1),(i 2),z,(o 3464 48 1 1),z,(i 4),(o 3518 2 1 1),z,a,z,(i 2),z,a,ff,a,z,b,z,a,z,z,z,(i 2),a,z,z,a,z,a]),z,a]⟩), s2158b⟩
noncomputable def k620 : Known := ⟨9, [(ag [(i 1),(i 1),(i 4),(i 2),(i 2),(i 2),(i 1),(i 1),(i 2),(h 1),(i 2),z,(.slice (ad 22 0) 1 1),z,(i 4),(.slice (ad 26 0) 1 1),z,a,z,(i 2),z,a,ff,a,z,b,z,a,z,z,z,(i 2),a,z,z,a,z,a]),(i 501)], s620a, (.tuple ⟨[(ag ((rp 9 a) ++ [(h 0),a,z,z,z,a,z,z,a,z,a,z,a,ff,a,z,b,z,a,z,z,z,a,a,z,z,a,z,a])),a,(i 2)]⟩), s620b⟩
noncomputable def k423 : Known := ⟨9, [(ag [(i 1),(i 1),(i 4),(i 2),(i 2),(i 2),(i 1),(i 1),(i 2),(h 1),(i 2),z,(.slice (ad 22 0) 1 1),z,(i 4),(.slice (ad 26 0) 1 1),z,a,z,(i 2),z,a,ff,a,z,b,z,a,z,z,z,(i 2),a,z,z,a,z,a]),(j 0)], s423a, (.tuple ⟨[(ag ((rp 9 a) ++ [(h 0),a,z,z,z,a,z,z,a,z,a,z,a,ff,a,z,b,z,a,z,z,z,a,a,z,z,a,z,a])),a,(i 2)]⟩), s423b⟩
noncomputable def k3299 : Known := ⟨28, [(.pointer (ad 4932 0))], s3299a, tt, s3299b⟩
noncomputable def k4134 : Known := ⟨28, [(.pointer (ad 4932 0))], s4134a, tt, s4134b⟩
noncomputable def k3091 : Known := ⟨8, [(ag [(i 1),(i 1),(i 4),(i 2),(i 2),(i 2),(i 1),(i 1),(i 2),(h 1),(i 2),z,(o 4561 48 1 1),z,(i 4),(o 4615 2 1 1),z,a,z,(i 2),z,a,ff,a,z,b,z,a,z,z,z,(i 2),a,z,(o 4626 56 1 1),(i 1),z,a]),(i 500)], s3091a, (.tuple ⟨[(ag [(i 1),(i 1),(i 4),(i 2),(i 2),(i 2),(i 1),(i 1),(i 2),(h 1),(i 2),z,(o 7222 48 1 1),z,(i 4),(o 7276 2 1 1),z,a,z,(i 2),z,a,tt,a,z,b,z,a,z,z,z,(i 2),a,z,(o 7287 56 0 1),(i 1),z,a]),(o 7326 2 2 2),(i 2),a]⟩), s3091b⟩
noncomputable def k5345 : Known := ⟨28, [(.pointer (ad 7974 0))], s5345a, tt, s5345b⟩
noncomputable def k6155 : Known := ⟨28, [(.pointer (ad 7974 0))], s6155a, tt, s6155b⟩
noncomputable def k6964 : Known := ⟨28, [(.pointer (ad 7974 0))], s6964a, tt, s6964b⟩
noncomputable def k7796 : Known := ⟨28, [(.pointer (ad 7974 0))], s7796a, tt, s7796b⟩
noncomputable def k8604 : Known := ⟨28, [(.pointer (ad 7974 0))], s8604a, tt, s8604b⟩
noncomputable def k9428 : Known := ⟨28, [(.pointer (ad 7974 0))], s9428a, tt, s9428b⟩
noncomputable def k5137 : Known := ⟨8, [(ag [(i 1),(i 1),(i 4),(i 2),(i 2),(i 2),(i 1),(i 1),(i 2),(h 1),(i 2),z,(o 7600 48 1 1),z,(i 4),(o 7654 2 1 1),z,a,z,(i 2),z,a,ff,a,z,b,z,a,z,z,z,(i 2),a,z,(o 7665 56 1 1),(i 1),z,a]),(i 500)], s5137a, (.tuple ⟨[(ag [(i 1),(i 1),(i 4),(i 2),(i 2),(i 2),(i 1),(i 1),(i 2),(h 1),(i 2),z,(o 15207 48 1 1),z,(i 4),(o 15261 2 1 1),z,a,z,(i 2),z,(i 1),ff,(i 1),(.slice (ad 15271 0) 0 0),b,z,a,z,z,z,(i 2),a,z,(o 15273 56 0 1),(i 1),z,a]),(o 15324 2 8 8),(i 6),a]⟩), s5137b⟩
noncomputable def k10393 : Known := ⟨28, [(.pointer (ad 15637 0))], s10393a, tt, s10393b⟩
noncomputable def k11203 : Known := ⟨28, [(.pointer (ad 15637 0))], s11203a, tt, s11203b⟩
noncomputable def k12012 : Known := ⟨28, [(.pointer (ad 15637 0))], s12012a, tt, s12012b⟩
noncomputable def k12844 : Known := ⟨28, [(.pointer (ad 15637 0))], s12844a, tt, s12844b⟩
noncomputable def k13652 : Known := ⟨28, [(.pointer (ad 15637 0))], s13652a, tt, s13652b⟩
noncomputable def k14476 : Known := ⟨28, [(.pointer (ad 15637 0))], s14476a, tt, s14476b⟩
noncomputable def k10185 : Known := ⟨10, [(ag [(i 1),(i 1),(i 4),(i 2),(i 2),(i 2),(i 1),(i 1),(i 2),(h 1),(i 2),z,(o 7600 48 1 1),z,(i 4),(o 7654 2 1 1),z,a,z,(i 2),z,a,ff,a,z,b,z,a,z,z,z,(i 2),a,z,(o 7665 56 1 1),(i 1),z,a]),(i 500)], s10185a, (.tuple ⟨[(o 22989 1 1 1),(o 22991 41 1 1),a]⟩), s10185b⟩
noncomputable def k4925 : Known := ⟨12, [], s4925a, tt, s4925b⟩
end Fn
end Go.Proofs.YtggkbakjmejojaaGreatDoor
