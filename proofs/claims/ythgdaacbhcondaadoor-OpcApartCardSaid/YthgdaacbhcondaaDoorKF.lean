/- What is known of the types. No condition. -/
import Derived.Test.YthgdaacbhcondaaDoorRows
import Derived.WalkKit
namespace Go.Proofs.YthgdaacbhcondaaDoor
open Go
theorem inf2 : (Tryd.prog.info? 2).map (fun i => (i.zero, i.size, i.bytes)) = some (some (.int .i64 0), 1, 8) := by kernel_rfl
theorem inf3 : (Tryd.prog.info? 3).map (fun i => (i.zero, i.size, i.bytes)) = some (some (.int .i64 0), 1, 8) := by kernel_rfl
theorem inf4 : (Tryd.prog.info? 4).map (fun i => (i.zero, i.size, i.bytes)) = some (some (.bool false), 1, 1) := by kernel_rfl
theorem inf5 : (Tryd.prog.info? 5).map (fun i => (i.zero, i.size, i.bytes)) = some (some (.int .u8 0), 1, 1) := by kernel_rfl
theorem inf7 : (Tryd.prog.info? 7).map (fun i => (i.zero, i.size, i.bytes)) = some (some (.agg #[(.int .i64 0), (.int .i64 0), (.bool false), (.int .u8 0)]), 4, 24) := by kernel_rfl
theorem inf9 : (Tryd.prog.info? 9).map (fun i => (i.zero, i.size, i.bytes)) = some (some (.string ⟨#[]⟩), 1, 16) := by kernel_rfl
theorem inf12 : (Tryd.prog.info? 12).map (fun i => (i.zero, i.size, i.bytes)) = some (some (.int .u64 0), 1, 8) := by kernel_rfl
theorem inf13 : (Tryd.prog.info? 13).map (fun i => (i.zero, i.size, i.bytes)) = some (some (.agg #[(.string ⟨#[]⟩), (.int .u64 0)]), 2, 24) := by kernel_rfl
theorem inf18 : (Tryd.prog.info? 18).map (fun i => (i.zero, i.size, i.bytes)) = some (some (.agg #[(.pointer none)]), 1, 8) := by kernel_rfl
theorem inf20 : (Tryd.prog.info? 20).map (fun i => (i.zero, i.size, i.bytes)) = some (some .nilIface, 1, 16) := by kernel_rfl
theorem inf21 : (Tryd.prog.info? 21).map (fun i => (i.zero, i.size, i.bytes)) = some (some (.int .i32 0), 1, 4) := by kernel_rfl
theorem inf23 : (Tryd.prog.info? 23).map (fun i => (i.zero, i.size, i.bytes)) = some (some (.agg #[(.int .u8 0), (.string ⟨#[]⟩), (.int .u8 0), (.string ⟨#[]⟩), (.int .i64 0)]), 5, 56) := by kernel_rfl
theorem inf24 : (Tryd.prog.info? 24).map (fun i => (i.zero, i.size, i.bytes)) = some (some (.agg #[(.int .u8 0), (.string ⟨#[]⟩), (.int .u8 0), (.string ⟨#[]⟩), (.int .i64 0)]), 5, 56) := by kernel_rfl
theorem inf27 : (Tryd.prog.info? 27).map (fun i => (i.zero, i.size, i.bytes)) = some (some (.slice none 0 0), 1, 24) := by kernel_rfl
theorem inf39 : (Tryd.prog.info? 39).map (fun i => (i.zero, i.size, i.bytes)) = some (some (.slice none 0 0), 1, 24) := by kernel_rfl
theorem inf44 : (Tryd.prog.info? 44).map (fun i => (i.zero, i.size, i.bytes)) = some (some (.agg (Array.replicate 256 (.string ⟨#[]⟩))), 256, 4096) := by kernel_rfl
theorem inf46 : (Tryd.prog.info? 46).map (fun i => (i.zero, i.size, i.bytes)) = some (some (.slice none 0 0), 1, 24) := by kernel_rfl
theorem inf49 : (Tryd.prog.info? 49).map (fun i => (i.zero, i.size, i.bytes)) = some (some (.agg (Array.replicate 256 (.int .u8 0))), 256, 256) := by kernel_rfl
theorem inf52 : (Tryd.prog.info? 52).map (fun i => (i.zero, i.size, i.bytes)) = some (some (.slice none 0 0), 1, 24) := by kernel_rfl
theorem inf53 : (Tryd.prog.info? 53).map (fun i => (i.zero, i.size, i.bytes)) = some (some (.agg #[(.int .i64 0), (.int .i64 0)]), 2, 16) := by kernel_rfl
theorem inf54 : (Tryd.prog.info? 54).map (fun i => (i.zero, i.size, i.bytes)) = some (some (.agg #[(.int .i64 0), (.int .i64 0)]), 2, 16) := by kernel_rfl
theorem inf55 : (Tryd.prog.info? 55).map (fun i => (i.zero, i.size, i.bytes)) = some (some (.int .u32 0), 1, 4) := by kernel_rfl
theorem inf57 : (Tryd.prog.info? 57).map (fun i => (i.zero, i.size, i.bytes)) = some (some (.pointer none), 1, 8) := by kernel_rfl
theorem inf58 : (Tryd.prog.info? 58).map (fun i => (i.zero, i.size, i.bytes)) = some (some (.slice none 0 0), 1, 24) := by kernel_rfl
theorem inf59 : (Tryd.prog.info? 59).map (fun i => (i.zero, i.size, i.bytes)) = some (some (.slice none 0 0), 1, 24) := by kernel_rfl
theorem inf60 : (Tryd.prog.info? 60).map (fun i => (i.zero, i.size, i.bytes)) = some (some (.agg #[(.slice none 0 0), (.slice none 0 0), (.int .i64 0)]), 3, 56) := by kernel_rfl
theorem inf61 : (Tryd.prog.info? 61).map (fun i => (i.zero, i.size, i.bytes)) = some (some (.agg #[(.slice none 0 0), (.slice none 0 0), (.int .i64 0)]), 3, 56) := by kernel_rfl
theorem inf62 : (Tryd.prog.info? 62).map (fun i => (i.zero, i.size, i.bytes)) = some (some (.int .u16 0), 1, 2) := by kernel_rfl
theorem inf63 : (Tryd.prog.info? 63).map (fun i => (i.zero, i.size, i.bytes)) = some (some (.agg #[(.int .u16 0), (.int .u16 0), (.int .u16 0)]), 3, 6) := by kernel_rfl
theorem inf64 : (Tryd.prog.info? 64).map (fun i => (i.zero, i.size, i.bytes)) = some (some (.agg #[(.int .u16 0), (.int .u16 0), (.int .u16 0)]), 3, 6) := by kernel_rfl
theorem inf66 : (Tryd.prog.info? 66).map (fun i => (i.zero, i.size, i.bytes)) = some (some (.agg #[(.int .u32 0), (.int .u32 0), (.int .u32 0)]), 3, 12) := by kernel_rfl
theorem inf67 : (Tryd.prog.info? 67).map (fun i => (i.zero, i.size, i.bytes)) = some (some (.agg #[(.int .u32 0), (.int .u32 0), (.int .u32 0)]), 3, 12) := by kernel_rfl
theorem inf69 : (Tryd.prog.info? 69).map (fun i => (i.zero, i.size, i.bytes)) = some (some (.pointer none), 1, 8) := by kernel_rfl
theorem inf70 : (Tryd.prog.info? 70).map (fun i => (i.zero, i.size, i.bytes)) = some (some (.int .u64 0), 1, 8) := by kernel_rfl
theorem inf71 : (Tryd.prog.info? 71).map (fun i => (i.zero, i.size, i.bytes)) = some (some (.pointer none), 1, 8) := by kernel_rfl
theorem inf73 : (Tryd.prog.info? 73).map (fun i => (i.zero, i.size, i.bytes)) = some (some (.agg #[(.pointer none), (.pointer none), (.pointer none), (.string ⟨#[]⟩)]), 4, 40) := by kernel_rfl
theorem inf75 : (Tryd.prog.info? 75).map (fun i => (i.zero, i.size, i.bytes)) = some (some (.agg #[]), 0, 0) := by kernel_rfl
theorem inf76 : (Tryd.prog.info? 76).map (fun i => (i.zero, i.size, i.bytes)) = some (some (.agg #[]), 0, 0) := by kernel_rfl
theorem inf82 : (Tryd.prog.info? 82).map (fun i => (i.zero, i.size, i.bytes)) = some (some (.pointer none), 1, 8) := by kernel_rfl
theorem inf85 : (Tryd.prog.info? 85).map (fun i => (i.zero, i.size, i.bytes)) = some (some (.agg #[(.int .u64 0), (.int .u64 0), (.int .u32 0), (.int .u8 0), (.int .u8 0), (.int .u8 0), (.int .u8 0), .nilFunc, (.pointer none), (.int .i32 0), (.int .i32 0)]), 11, 48) := by kernel_rfl
theorem inf87 : (Tryd.prog.info? 87).map (fun i => (i.zero, i.size, i.bytes)) = some (some (.pointer none), 1, 8) := by kernel_rfl
theorem sz2 : (Tryd.prog.info? 2).map (·.size) = some 1 := by kernel_rfl
theorem sz3 : (Tryd.prog.info? 3).map (·.size) = some 1 := by kernel_rfl
theorem sz4 : (Tryd.prog.info? 4).map (·.size) = some 1 := by kernel_rfl
theorem sz5 : (Tryd.prog.info? 5).map (·.size) = some 1 := by kernel_rfl
theorem sz7 : (Tryd.prog.info? 7).map (·.size) = some 4 := by kernel_rfl
theorem sz9 : (Tryd.prog.info? 9).map (·.size) = some 1 := by kernel_rfl
theorem sz12 : (Tryd.prog.info? 12).map (·.size) = some 1 := by kernel_rfl
theorem sz13 : (Tryd.prog.info? 13).map (·.size) = some 2 := by kernel_rfl
theorem sz18 : (Tryd.prog.info? 18).map (·.size) = some 1 := by kernel_rfl
theorem sz20 : (Tryd.prog.info? 20).map (·.size) = some 1 := by kernel_rfl
theorem sz21 : (Tryd.prog.info? 21).map (·.size) = some 1 := by kernel_rfl
theorem sz23 : (Tryd.prog.info? 23).map (·.size) = some 5 := by kernel_rfl
theorem sz24 : (Tryd.prog.info? 24).map (·.size) = some 5 := by kernel_rfl
theorem sz27 : (Tryd.prog.info? 27).map (·.size) = some 1 := by kernel_rfl
theorem sz39 : (Tryd.prog.info? 39).map (·.size) = some 1 := by kernel_rfl
theorem sz44 : (Tryd.prog.info? 44).map (·.size) = some 256 := by kernel_rfl
theorem sz46 : (Tryd.prog.info? 46).map (·.size) = some 1 := by kernel_rfl
theorem sz49 : (Tryd.prog.info? 49).map (·.size) = some 256 := by kernel_rfl
theorem sz52 : (Tryd.prog.info? 52).map (·.size) = some 1 := by kernel_rfl
theorem sz53 : (Tryd.prog.info? 53).map (·.size) = some 2 := by kernel_rfl
theorem sz54 : (Tryd.prog.info? 54).map (·.size) = some 2 := by kernel_rfl
theorem sz55 : (Tryd.prog.info? 55).map (·.size) = some 1 := by kernel_rfl
theorem sz57 : (Tryd.prog.info? 57).map (·.size) = some 1 := by kernel_rfl
theorem sz58 : (Tryd.prog.info? 58).map (·.size) = some 1 := by kernel_rfl
theorem sz59 : (Tryd.prog.info? 59).map (·.size) = some 1 := by kernel_rfl
theorem sz60 : (Tryd.prog.info? 60).map (·.size) = some 3 := by kernel_rfl
theorem sz61 : (Tryd.prog.info? 61).map (·.size) = some 3 := by kernel_rfl
theorem sz62 : (Tryd.prog.info? 62).map (·.size) = some 1 := by kernel_rfl
theorem sz63 : (Tryd.prog.info? 63).map (·.size) = some 3 := by kernel_rfl
theorem sz64 : (Tryd.prog.info? 64).map (·.size) = some 3 := by kernel_rfl
theorem sz66 : (Tryd.prog.info? 66).map (·.size) = some 3 := by kernel_rfl
theorem sz67 : (Tryd.prog.info? 67).map (·.size) = some 3 := by kernel_rfl
theorem sz69 : (Tryd.prog.info? 69).map (·.size) = some 1 := by kernel_rfl
theorem sz70 : (Tryd.prog.info? 70).map (·.size) = some 1 := by kernel_rfl
theorem sz71 : (Tryd.prog.info? 71).map (·.size) = some 1 := by kernel_rfl
theorem sz73 : (Tryd.prog.info? 73).map (·.size) = some 4 := by kernel_rfl
theorem sz75 : (Tryd.prog.info? 75).map (·.size) = some 0 := by kernel_rfl
theorem sz76 : (Tryd.prog.info? 76).map (·.size) = some 0 := by kernel_rfl
theorem sz82 : (Tryd.prog.info? 82).map (·.size) = some 1 := by kernel_rfl
theorem sz85 : (Tryd.prog.info? 85).map (·.size) = some 11 := by kernel_rfl
theorem sz87 : (Tryd.prog.info? 87).map (·.size) = some 1 := by kernel_rfl
theorem zr2 : (Tryd.prog.info? 2).map (·.zero) = some (some (.int .i64 0)) := by kernel_rfl
theorem zr3 : (Tryd.prog.info? 3).map (·.zero) = some (some (.int .i64 0)) := by kernel_rfl
theorem zr4 : (Tryd.prog.info? 4).map (·.zero) = some (some (.bool false)) := by kernel_rfl
theorem zr5 : (Tryd.prog.info? 5).map (·.zero) = some (some (.int .u8 0)) := by kernel_rfl
theorem zr7 : (Tryd.prog.info? 7).map (·.zero) = some (some (.agg #[(.int .i64 0), (.int .i64 0), (.bool false), (.int .u8 0)])) := by kernel_rfl
theorem zr9 : (Tryd.prog.info? 9).map (·.zero) = some (some (.string ⟨#[]⟩)) := by kernel_rfl
theorem zr12 : (Tryd.prog.info? 12).map (·.zero) = some (some (.int .u64 0)) := by kernel_rfl
theorem zr13 : (Tryd.prog.info? 13).map (·.zero) = some (some (.agg #[(.string ⟨#[]⟩), (.int .u64 0)])) := by kernel_rfl
theorem zr18 : (Tryd.prog.info? 18).map (·.zero) = some (some (.agg #[(.pointer none)])) := by kernel_rfl
theorem zr20 : (Tryd.prog.info? 20).map (·.zero) = some (some .nilIface) := by kernel_rfl
theorem zr21 : (Tryd.prog.info? 21).map (·.zero) = some (some (.int .i32 0)) := by kernel_rfl
theorem zr23 : (Tryd.prog.info? 23).map (·.zero) = some (some (.agg #[(.int .u8 0), (.string ⟨#[]⟩), (.int .u8 0), (.string ⟨#[]⟩), (.int .i64 0)])) := by kernel_rfl
theorem zr24 : (Tryd.prog.info? 24).map (·.zero) = some (some (.agg #[(.int .u8 0), (.string ⟨#[]⟩), (.int .u8 0), (.string ⟨#[]⟩), (.int .i64 0)])) := by kernel_rfl
theorem zr27 : (Tryd.prog.info? 27).map (·.zero) = some (some (.slice none 0 0)) := by kernel_rfl
theorem zr39 : (Tryd.prog.info? 39).map (·.zero) = some (some (.slice none 0 0)) := by kernel_rfl
theorem zr44 : (Tryd.prog.info? 44).map (·.zero) = some (some (.agg (Array.replicate 256 (.string ⟨#[]⟩)))) := by kernel_rfl
theorem zr46 : (Tryd.prog.info? 46).map (·.zero) = some (some (.slice none 0 0)) := by kernel_rfl
theorem zr49 : (Tryd.prog.info? 49).map (·.zero) = some (some (.agg (Array.replicate 256 (.int .u8 0)))) := by kernel_rfl
theorem zr52 : (Tryd.prog.info? 52).map (·.zero) = some (some (.slice none 0 0)) := by kernel_rfl
theorem zr53 : (Tryd.prog.info? 53).map (·.zero) = some (some (.agg #[(.int .i64 0), (.int .i64 0)])) := by kernel_rfl
theorem zr54 : (Tryd.prog.info? 54).map (·.zero) = some (some (.agg #[(.int .i64 0), (.int .i64 0)])) := by kernel_rfl
theorem zr55 : (Tryd.prog.info? 55).map (·.zero) = some (some (.int .u32 0)) := by kernel_rfl
theorem zr57 : (Tryd.prog.info? 57).map (·.zero) = some (some (.pointer none)) := by kernel_rfl
theorem zr58 : (Tryd.prog.info? 58).map (·.zero) = some (some (.slice none 0 0)) := by kernel_rfl
theorem zr59 : (Tryd.prog.info? 59).map (·.zero) = some (some (.slice none 0 0)) := by kernel_rfl
theorem zr60 : (Tryd.prog.info? 60).map (·.zero) = some (some (.agg #[(.slice none 0 0), (.slice none 0 0), (.int .i64 0)])) := by kernel_rfl
theorem zr61 : (Tryd.prog.info? 61).map (·.zero) = some (some (.agg #[(.slice none 0 0), (.slice none 0 0), (.int .i64 0)])) := by kernel_rfl
theorem zr62 : (Tryd.prog.info? 62).map (·.zero) = some (some (.int .u16 0)) := by kernel_rfl
theorem zr63 : (Tryd.prog.info? 63).map (·.zero) = some (some (.agg #[(.int .u16 0), (.int .u16 0), (.int .u16 0)])) := by kernel_rfl
theorem zr64 : (Tryd.prog.info? 64).map (·.zero) = some (some (.agg #[(.int .u16 0), (.int .u16 0), (.int .u16 0)])) := by kernel_rfl
theorem zr66 : (Tryd.prog.info? 66).map (·.zero) = some (some (.agg #[(.int .u32 0), (.int .u32 0), (.int .u32 0)])) := by kernel_rfl
theorem zr67 : (Tryd.prog.info? 67).map (·.zero) = some (some (.agg #[(.int .u32 0), (.int .u32 0), (.int .u32 0)])) := by kernel_rfl
theorem zr69 : (Tryd.prog.info? 69).map (·.zero) = some (some (.pointer none)) := by kernel_rfl
theorem zr70 : (Tryd.prog.info? 70).map (·.zero) = some (some (.int .u64 0)) := by kernel_rfl
theorem zr71 : (Tryd.prog.info? 71).map (·.zero) = some (some (.pointer none)) := by kernel_rfl
theorem zr73 : (Tryd.prog.info? 73).map (·.zero) = some (some (.agg #[(.pointer none), (.pointer none), (.pointer none), (.string ⟨#[]⟩)])) := by kernel_rfl
theorem zr75 : (Tryd.prog.info? 75).map (·.zero) = some (some (.agg #[])) := by kernel_rfl
theorem zr76 : (Tryd.prog.info? 76).map (·.zero) = some (some (.agg #[])) := by kernel_rfl
theorem zr82 : (Tryd.prog.info? 82).map (·.zero) = some (some (.pointer none)) := by kernel_rfl
theorem zr85 : (Tryd.prog.info? 85).map (·.zero) = some (some (.agg #[(.int .u64 0), (.int .u64 0), (.int .u32 0), (.int .u8 0), (.int .u8 0), (.int .u8 0), (.int .u8 0), .nilFunc, (.pointer none), (.int .i32 0), (.int .i32 0)])) := by kernel_rfl
theorem zr87 : (Tryd.prog.info? 87).map (·.zero) = some (some (.pointer none)) := by kernel_rfl
theorem zs2 : (Tryd.prog.info? 2).map (fun i => (i.zero, i.size)) = some (some (.int .i64 0), 1) := by kernel_rfl
theorem zs3 : (Tryd.prog.info? 3).map (fun i => (i.zero, i.size)) = some (some (.int .i64 0), 1) := by kernel_rfl
theorem zs4 : (Tryd.prog.info? 4).map (fun i => (i.zero, i.size)) = some (some (.bool false), 1) := by kernel_rfl
theorem zs5 : (Tryd.prog.info? 5).map (fun i => (i.zero, i.size)) = some (some (.int .u8 0), 1) := by kernel_rfl
theorem zs7 : (Tryd.prog.info? 7).map (fun i => (i.zero, i.size)) = some (some (.agg #[(.int .i64 0), (.int .i64 0), (.bool false), (.int .u8 0)]), 4) := by kernel_rfl
theorem zs9 : (Tryd.prog.info? 9).map (fun i => (i.zero, i.size)) = some (some (.string ⟨#[]⟩), 1) := by kernel_rfl
theorem zs12 : (Tryd.prog.info? 12).map (fun i => (i.zero, i.size)) = some (some (.int .u64 0), 1) := by kernel_rfl
theorem zs13 : (Tryd.prog.info? 13).map (fun i => (i.zero, i.size)) = some (some (.agg #[(.string ⟨#[]⟩), (.int .u64 0)]), 2) := by kernel_rfl
theorem zs18 : (Tryd.prog.info? 18).map (fun i => (i.zero, i.size)) = some (some (.agg #[(.pointer none)]), 1) := by kernel_rfl
theorem zs20 : (Tryd.prog.info? 20).map (fun i => (i.zero, i.size)) = some (some .nilIface, 1) := by kernel_rfl
theorem zs21 : (Tryd.prog.info? 21).map (fun i => (i.zero, i.size)) = some (some (.int .i32 0), 1) := by kernel_rfl
theorem zs23 : (Tryd.prog.info? 23).map (fun i => (i.zero, i.size)) = some (some (.agg #[(.int .u8 0), (.string ⟨#[]⟩), (.int .u8 0), (.string ⟨#[]⟩), (.int .i64 0)]), 5) := by kernel_rfl
theorem zs24 : (Tryd.prog.info? 24).map (fun i => (i.zero, i.size)) = some (some (.agg #[(.int .u8 0), (.string ⟨#[]⟩), (.int .u8 0), (.string ⟨#[]⟩), (.int .i64 0)]), 5) := by kernel_rfl
theorem zs27 : (Tryd.prog.info? 27).map (fun i => (i.zero, i.size)) = some (some (.slice none 0 0), 1) := by kernel_rfl
theorem zs39 : (Tryd.prog.info? 39).map (fun i => (i.zero, i.size)) = some (some (.slice none 0 0), 1) := by kernel_rfl
theorem zs44 : (Tryd.prog.info? 44).map (fun i => (i.zero, i.size)) = some (some (.agg (Array.replicate 256 (.string ⟨#[]⟩))), 256) := by kernel_rfl
theorem zs46 : (Tryd.prog.info? 46).map (fun i => (i.zero, i.size)) = some (some (.slice none 0 0), 1) := by kernel_rfl
theorem zs49 : (Tryd.prog.info? 49).map (fun i => (i.zero, i.size)) = some (some (.agg (Array.replicate 256 (.int .u8 0))), 256) := by kernel_rfl
theorem zs52 : (Tryd.prog.info? 52).map (fun i => (i.zero, i.size)) = some (some (.slice none 0 0), 1) := by kernel_rfl
theorem zs53 : (Tryd.prog.info? 53).map (fun i => (i.zero, i.size)) = some (some (.agg #[(.int .i64 0), (.int .i64 0)]), 2) := by kernel_rfl
theorem zs54 : (Tryd.prog.info? 54).map (fun i => (i.zero, i.size)) = some (some (.agg #[(.int .i64 0), (.int .i64 0)]), 2) := by kernel_rfl
theorem zs55 : (Tryd.prog.info? 55).map (fun i => (i.zero, i.size)) = some (some (.int .u32 0), 1) := by kernel_rfl
theorem zs57 : (Tryd.prog.info? 57).map (fun i => (i.zero, i.size)) = some (some (.pointer none), 1) := by kernel_rfl
theorem zs58 : (Tryd.prog.info? 58).map (fun i => (i.zero, i.size)) = some (some (.slice none 0 0), 1) := by kernel_rfl
theorem zs59 : (Tryd.prog.info? 59).map (fun i => (i.zero, i.size)) = some (some (.slice none 0 0), 1) := by kernel_rfl
theorem zs60 : (Tryd.prog.info? 60).map (fun i => (i.zero, i.size)) = some (some (.agg #[(.slice none 0 0), (.slice none 0 0), (.int .i64 0)]), 3) := by kernel_rfl
theorem zs61 : (Tryd.prog.info? 61).map (fun i => (i.zero, i.size)) = some (some (.agg #[(.slice none 0 0), (.slice none 0 0), (.int .i64 0)]), 3) := by kernel_rfl
theorem zs62 : (Tryd.prog.info? 62).map (fun i => (i.zero, i.size)) = some (some (.int .u16 0), 1) := by kernel_rfl
theorem zs63 : (Tryd.prog.info? 63).map (fun i => (i.zero, i.size)) = some (some (.agg #[(.int .u16 0), (.int .u16 0), (.int .u16 0)]), 3) := by kernel_rfl
theorem zs64 : (Tryd.prog.info? 64).map (fun i => (i.zero, i.size)) = some (some (.agg #[(.int .u16 0), (.int .u16 0), (.int .u16 0)]), 3) := by kernel_rfl
theorem zs66 : (Tryd.prog.info? 66).map (fun i => (i.zero, i.size)) = some (some (.agg #[(.int .u32 0), (.int .u32 0), (.int .u32 0)]), 3) := by kernel_rfl
theorem zs67 : (Tryd.prog.info? 67).map (fun i => (i.zero, i.size)) = some (some (.agg #[(.int .u32 0), (.int .u32 0), (.int .u32 0)]), 3) := by kernel_rfl
theorem zs69 : (Tryd.prog.info? 69).map (fun i => (i.zero, i.size)) = some (some (.pointer none), 1) := by kernel_rfl
theorem zs70 : (Tryd.prog.info? 70).map (fun i => (i.zero, i.size)) = some (some (.int .u64 0), 1) := by kernel_rfl
theorem zs71 : (Tryd.prog.info? 71).map (fun i => (i.zero, i.size)) = some (some (.pointer none), 1) := by kernel_rfl
theorem zs73 : (Tryd.prog.info? 73).map (fun i => (i.zero, i.size)) = some (some (.agg #[(.pointer none), (.pointer none), (.pointer none), (.string ⟨#[]⟩)]), 4) := by kernel_rfl
theorem zs75 : (Tryd.prog.info? 75).map (fun i => (i.zero, i.size)) = some (some (.agg #[]), 0) := by kernel_rfl
theorem zs76 : (Tryd.prog.info? 76).map (fun i => (i.zero, i.size)) = some (some (.agg #[]), 0) := by kernel_rfl
theorem zs82 : (Tryd.prog.info? 82).map (fun i => (i.zero, i.size)) = some (some (.pointer none), 1) := by kernel_rfl
theorem zs85 : (Tryd.prog.info? 85).map (fun i => (i.zero, i.size)) = some (some (.agg #[(.int .u64 0), (.int .u64 0), (.int .u32 0), (.int .u8 0), (.int .u8 0), (.int .u8 0), (.int .u8 0), .nilFunc, (.pointer none), (.int .i32 0), (.int .i32 0)]), 11) := by kernel_rfl
theorem zs87 : (Tryd.prog.info? 87).map (fun i => (i.zero, i.size)) = some (some (.pointer none), 1) := by kernel_rfl
end Go.Proofs.YthgdaacbhcondaaDoor
