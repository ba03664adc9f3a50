/- The contract of strings.Trim, laid at this program by the kit (lay-shelf.mjs, lay-plain.mjs). -/
import Derived.Shelf.Strings.SlTrimAscii
import Derived.Shelf.Strings.Trim
import Derived.Test.YtjcoijejhachhaaDoorProg
namespace Go.Proofs
open Go.Shelf
def Tryd.lays160_ren : Go.Shelf.Ren := ⟨fun | 160 => 141 | 232 => 158 | 231 => 157 | 227 => 159 | 234 => 161 | 233 => 160 | 236 => 163 | 235 => 162 | 228 => 166 | 271 => 169 | 151 => 168 | 197 => 167 | 120 => 172 | 152 => 171 | 260 => 170 | 137 => 173 | 119 => 174 | 224 => 175 | 225 => 176 | 217 => 177 | 266 => 178 | n => n, fun | 9 => 9 | 4 => 4 | 3 => 3 | 5 => 5 | 117 => 149 | 116 => 148 | 0 => 0 | 124 => 152 | 21 => 21 | 105 => 156 | 46 => 161 | 119 => 160 | 139 => 164 | 138 => 163 | n => n, fun | 3 => 0 | 4 => 1 | n => n⟩
theorem Tryd.lays160 : Go.Proofs.Lays.n160 Tryd.prog Tryd.lays160_ren := {
  mixed := by kernel_rfl
  f119 := Tryd.func174.trans (congrArg some (by kernel_rfl))
  f120 := Tryd.func172.trans (congrArg some (by kernel_rfl))
  f137 := Tryd.func173.trans (congrArg some (by kernel_rfl))
  f151 := Tryd.func168.trans (congrArg some (by kernel_rfl))
  f152 := Tryd.func171.trans (congrArg some (by kernel_rfl))
  f160 := Tryd.func141.trans (congrArg some (by kernel_rfl))
  f197 := Tryd.func167.trans (congrArg some (by kernel_rfl))
  f217 := Tryd.func177.trans (congrArg some (by kernel_rfl))
  f224 := Tryd.func175.trans (congrArg some (by kernel_rfl))
  f225 := Tryd.func176.trans (congrArg some (by kernel_rfl))
  f227 := Tryd.func159.trans (congrArg some (by kernel_rfl))
  f228 := Tryd.func166.trans (congrArg some (by kernel_rfl))
  f231 := Tryd.func157.trans (congrArg some (by kernel_rfl))
  f232 := Tryd.func158.trans (congrArg some (by kernel_rfl))
  f233 := Tryd.func160.trans (congrArg some (by kernel_rfl))
  f234 := Tryd.func161.trans (congrArg some (by kernel_rfl))
  f235 := Tryd.func162.trans (congrArg some (by kernel_rfl))
  f236 := Tryd.func163.trans (congrArg some (by kernel_rfl))
  f260 := Tryd.func170.trans (congrArg some (by kernel_rfl))
  f266 := Tryd.func178.trans (congrArg some (by kernel_rfl))
  f271 := Tryd.func169.trans (congrArg some (by kernel_rfl))
  t0 := Tryd.underlying0
  a0 := Tryd.isAgg0
  z0 := Tryd.sizeOf0
  v0 := Tryd.zeroValue0
  t3 := Tryd.underlying3
  a3 := Tryd.isAgg3
  z3 := Tryd.sizeOf3
  v3 := Tryd.zeroValue3
  t4 := Tryd.underlying4
  a4 := Tryd.isAgg4
  z4 := Tryd.sizeOf4
  v4 := Tryd.zeroValue4
  t5 := Tryd.underlying5
  a5 := Tryd.isAgg5
  z5 := Tryd.sizeOf5
  v5 := Tryd.zeroValue5
  t9 := Tryd.underlying9
  a9 := Tryd.isAgg9
  z9 := Tryd.sizeOf9
  v9 := Tryd.zeroValue9
  t21 := Tryd.underlying21
  a21 := Tryd.isAgg21
  z21 := Tryd.sizeOf21
  v21 := Tryd.zeroValue21
  t46 := Tryd.underlying161
  a46 := Tryd.isAgg161
  z46 := Tryd.sizeOf161
  v46 := Tryd.zeroValue161
  t105 := Tryd.underlying156
  a105 := Tryd.isAgg156
  z105 := Tryd.sizeOf156
  v105 := Tryd.zeroValue156
  t116 := Tryd.underlying148
  a116 := Tryd.isAgg148
  z116 := Tryd.sizeOf148
  t117 := Tryd.underlying149
  a117 := Tryd.isAgg149
  z117 := Tryd.sizeOf149
  v117 := Tryd.zeroValue149
  t119 := Tryd.underlying160
  a119 := Tryd.isAgg160
  z119 := Tryd.sizeOf160
  t124 := Tryd.underlying152
  a124 := Tryd.isAgg152
  z124 := Tryd.sizeOf152
  v124 := Tryd.zeroValue152
  t138 := Tryd.underlying163
  a138 := Tryd.isAgg163
  z138 := Tryd.sizeOf163
  v138 := Tryd.zeroValue163
  t139 := Tryd.underlying164
  a139 := Tryd.isAgg164
  z139 := Tryd.sizeOf164
  v139 := Tryd.zeroValue164
  g3 := by kernel_rfl
  g4 := by kernel_rfl }
open Go.RowKit in
theorem Tryd.strings_Trim_one (s : ByteArray) (c : UInt8) (hc : c.toNat < 128) (w : World) (hs : s.size ≤ 9223372036854775807) :
    Calls Tryd.prog 141 #[.string s, .string ⟨#[c]⟩] w fun e w' => e = .returned (.string ⟨(Lib.trimB s.data.toList c).toArray⟩) ∧ (w' = w ∨ w' = w.drew) := Any.strings_Trim_one Tryd.lays160 s c hc w hs
end Go.Proofs
