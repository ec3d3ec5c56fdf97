import Derived.Test.YtlllcknpdpjbpaaGreatDoorNobTab
import Derived.KernelRfl
import Derived.Test.YtlllcknpdpjbpaaGreatDoorProg
namespace Go.Proofs
open Go Go.Proofs.Sh
theorem fit_c310 : FitsAt Tryz.prog 310 IR.c310 := ⟨Tryz.f310, Tryz.func310, by kernel_rfl, by kernel_rfl, by decide⟩
theorem fit_c311 : FitsAt Tryz.prog 311 IR.c311 := ⟨Tryz.f311, Tryz.func311, by kernel_rfl, by kernel_rfl, by decide⟩
theorem fit_c312 : FitsAt Tryz.prog 312 IR.c312 := ⟨Tryz.f312, Tryz.func312, by kernel_rfl, by kernel_rfl, by decide⟩
theorem fit_c313 : FitsAt Tryz.prog 313 IR.c313 := ⟨Tryz.f313, Tryz.func313, by kernel_rfl, by kernel_rfl, by decide⟩
theorem fit_c314 : FitsAt Tryz.prog 314 IR.c314 := ⟨Tryz.f314, Tryz.func314, by kernel_rfl, by kernel_rfl, by decide⟩
theorem fit_c315 : FitsAt Tryz.prog 315 IR.c315 := ⟨Tryz.f315, Tryz.func315, by kernel_rfl, by kernel_rfl, by decide⟩
theorem fit_c316 : FitsAt Tryz.prog 316 IR.c316 := ⟨Tryz.f316, Tryz.func316, by kernel_rfl, by kernel_rfl, by decide⟩
theorem fit_c317 : FitsAt Tryz.prog 317 IR.c317 := ⟨Tryz.f317, Tryz.func317, by kernel_rfl, by kernel_rfl, by decide⟩
theorem fit_c318 : FitsAt Tryz.prog 318 IR.c318 := ⟨Tryz.f318, Tryz.func318, by kernel_rfl, by kernel_rfl, by decide⟩
theorem fit_c319 : FitsAt Tryz.prog 319 IR.c319 := ⟨Tryz.f319, Tryz.func319, by kernel_rfl, by kernel_rfl, by decide⟩
theorem fit_c320 : FitsAt Tryz.prog 320 IR.c320 := ⟨Tryz.f320, Tryz.func320, by kernel_rfl, by kernel_rfl, by decide⟩
theorem fit_c321 : FitsAt Tryz.prog 321 IR.c321 := ⟨Tryz.f321, Tryz.func321, by kernel_rfl, by kernel_rfl, by decide⟩
theorem fit_c322 : FitsAt Tryz.prog 322 IR.c322 := ⟨Tryz.f322, Tryz.func322, by kernel_rfl, by kernel_rfl, by decide⟩
theorem fit_c323 : FitsAt Tryz.prog 323 IR.c323 := ⟨Tryz.f323, Tryz.func323, by kernel_rfl, by kernel_rfl, by decide⟩
theorem fit_c324 : FitsAt Tryz.prog 324 IR.c324 := ⟨Tryz.f324, Tryz.func324, by kernel_rfl, by kernel_rfl, by decide⟩
theorem fit_c325 : FitsAt Tryz.prog 325 IR.c325 := ⟨Tryz.f325, Tryz.func325, by kernel_rfl, by kernel_rfl, by decide⟩
theorem fit_c326 : FitsAt Tryz.prog 326 IR.c326 := ⟨Tryz.f326, Tryz.func326, by kernel_rfl, by kernel_rfl, by decide⟩
theorem fit_c327 : FitsAt Tryz.prog 327 IR.c327 := ⟨Tryz.f327, Tryz.func327, by kernel_rfl, by kernel_rfl, by decide⟩
theorem fit_c328 : FitsAt Tryz.prog 328 IR.c328 := ⟨Tryz.f328, Tryz.func328, by kernel_rfl, by kernel_rfl, by decide⟩
theorem fit_c330 : FitsAt Tryz.prog 330 IR.c330 := ⟨Tryz.f330, Tryz.func330, by kernel_rfl, by kernel_rfl, by decide⟩
theorem fit_c331 : FitsAt Tryz.prog 331 IR.c331 := ⟨Tryz.f331, Tryz.func331, by kernel_rfl, by kernel_rfl, by decide⟩
theorem fit_c332 : FitsAt Tryz.prog 332 IR.c332 := ⟨Tryz.f332, Tryz.func332, by kernel_rfl, by kernel_rfl, by decide⟩
theorem fit_c333 : FitsAt Tryz.prog 333 IR.c333 := ⟨Tryz.f333, Tryz.func333, by kernel_rfl, by kernel_rfl, by decide⟩
theorem fit_c334 : FitsAt Tryz.prog 334 IR.c334 := ⟨Tryz.f334, Tryz.func334, by kernel_rfl, by kernel_rfl, by decide⟩
theorem fit_c335 : FitsAt Tryz.prog 335 IR.c335 := ⟨Tryz.f335, Tryz.func335, by kernel_rfl, by kernel_rfl, by decide⟩
theorem fit_c336 : FitsAt Tryz.prog 336 IR.c336 := ⟨Tryz.f336, Tryz.func336, by kernel_rfl, by kernel_rfl, by decide⟩
theorem fit_c337 : FitsAt Tryz.prog 337 IR.c337 := ⟨Tryz.f337, Tryz.func337, by kernel_rfl, by kernel_rfl, by decide⟩
theorem fit_c338 : FitsAt Tryz.prog 338 IR.c338 := ⟨Tryz.f338, Tryz.func338, by kernel_rfl, by kernel_rfl, by decide⟩
theorem fit_c339 : FitsAt Tryz.prog 339 IR.c339 := ⟨Tryz.f339, Tryz.func339, by kernel_rfl, by kernel_rfl, by decide⟩
theorem fit_c340 : FitsAt Tryz.prog 340 IR.c340 := ⟨Tryz.f340, Tryz.func340, by kernel_rfl, by kernel_rfl, by decide⟩
theorem fit_c341 : FitsAt Tryz.prog 341 IR.c341 := ⟨Tryz.f341, Tryz.func341, by kernel_rfl, by kernel_rfl, by decide⟩
theorem fit_c342 : FitsAt Tryz.prog 342 IR.c342 := ⟨Tryz.f342, Tryz.func342, by kernel_rfl, by kernel_rfl, by decide⟩
theorem fit_c343 : FitsAt Tryz.prog 343 IR.c343 := ⟨Tryz.f343, Tryz.func343, by kernel_rfl, by kernel_rfl, by decide⟩
theorem fit_c345 : FitsAt Tryz.prog 345 IR.c345 := ⟨Tryz.f345, Tryz.func345, by kernel_rfl, by kernel_rfl, by decide⟩
theorem fit_c346 : FitsAt Tryz.prog 346 IR.c346 := ⟨Tryz.f346, Tryz.func346, by kernel_rfl, by kernel_rfl, by decide⟩
theorem fit_c347 : FitsAt Tryz.prog 347 IR.c347 := ⟨Tryz.f347, Tryz.func347, by kernel_rfl, by kernel_rfl, by decide⟩
theorem fit_c348 : FitsAt Tryz.prog 348 IR.c348 := ⟨Tryz.f348, Tryz.func348, by kernel_rfl, by kernel_rfl, by decide⟩
theorem fit_c349 : FitsAt Tryz.prog 349 IR.c349 := ⟨Tryz.f349, Tryz.func349, by kernel_rfl, by kernel_rfl, by decide⟩
end Go.Proofs
