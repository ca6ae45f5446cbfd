/- The evaluator's code of the functions that are met is what it makes of the program's. Conditions: none. -/
import Derived.Test.YthegbcgdpkpiiaaGreatDoorIr
import Derived.Test.YthegbcgdpkpiiaaGreatDoorChecked
import Derived.KernelRfl
set_option linter.all false
set_option maxRecDepth 100000
namespace Go.Sim.Ir
open Go Go.Proofs
theorem b4 : fnOf Tryz.prog tab (fun _ => false) 4 = some f4 := by kernel_rfl
theorem b7 : fnOf Tryz.prog tab (fun _ => false) 7 = some f7 := by kernel_rfl
theorem b8 : fnOf Tryz.prog tab (fun _ => false) 8 = some f8 := by kernel_rfl
theorem b9 : fnOf Tryz.prog tab (fun _ => false) 9 = some f9 := by kernel_rfl
theorem b10 : fnOf Tryz.prog tab (fun _ => false) 10 = some f10 := by kernel_rfl
theorem b11 : fnOf Tryz.prog tab (fun _ => false) 11 = some f11 := by kernel_rfl
theorem b13 : fnOf Tryz.prog tab (fun _ => false) 13 = some f13 := by kernel_rfl
theorem b24 : fnOf Tryz.prog tab (fun _ => false) 24 = some f24 := by kernel_rfl
theorem b25 : fnOf Tryz.prog tab (fun _ => false) 25 = some f25 := by kernel_rfl
theorem b26 : fnOf Tryz.prog tab (fun _ => false) 26 = some f26 := by kernel_rfl
theorem b27 : fnOf Tryz.prog tab (fun _ => false) 27 = some f27 := by kernel_rfl
theorem b29 : fnOf Tryz.prog tab (fun _ => false) 29 = some f29 := by kernel_rfl
theorem b31 : fnOf Tryz.prog tab (fun _ => false) 31 = some f31 := by kernel_rfl
theorem b32 : fnOf Tryz.prog tab (fun _ => false) 32 = some f32 := by kernel_rfl
theorem b33 : fnOf Tryz.prog tab (fun _ => false) 33 = some f33 := by kernel_rfl
theorem b34 : fnOf Tryz.prog tab (fun _ => false) 34 = some f34 := by kernel_rfl
theorem b35 : fnOf Tryz.prog tab (fun _ => false) 35 = some f35 := by kernel_rfl
theorem b36 : fnOf Tryz.prog tab (fun _ => false) 36 = some f36 := by kernel_rfl
theorem b46 : fnOf Tryz.prog tab (fun _ => false) 46 = some f46 := by kernel_rfl
theorem b53 : fnOf Tryz.prog tab (fun _ => false) 53 = some f53 := by kernel_rfl
theorem b54 : fnOf Tryz.prog tab (fun _ => false) 54 = some f54 := by kernel_rfl
theorem b55 : fnOf Tryz.prog tab (fun _ => false) 55 = some f55 := by kernel_rfl
theorem b56 : fnOf Tryz.prog tab (fun _ => false) 56 = some f56 := by kernel_rfl
theorem b57 : fnOf Tryz.prog tab (fun _ => false) 57 = some f57 := by kernel_rfl
theorem b58 : fnOf Tryz.prog tab (fun _ => false) 58 = some f58 := by kernel_rfl
theorem b59 : fnOf Tryz.prog tab (fun _ => false) 59 = some f59 := by kernel_rfl
theorem b61 : fnOf Tryz.prog tab (fun _ => false) 61 = some f61 := by kernel_rfl
theorem b63 : fnOf Tryz.prog tab (fun _ => false) 63 = some f63 := by kernel_rfl
theorem b65 : fnOf Tryz.prog tab (fun _ => false) 65 = some f65 := by kernel_rfl
theorem b66 : fnOf Tryz.prog tab (fun _ => false) 66 = some f66 := by kernel_rfl
theorem b67 : fnOf Tryz.prog tab (fun _ => false) 67 = some f67 := by kernel_rfl
theorem b68 : fnOf Tryz.prog tab (fun _ => false) 68 = some f68 := by kernel_rfl
theorem b69 : fnOf Tryz.prog tab (fun _ => false) 69 = some f69 := by kernel_rfl
theorem b82 : fnOf Tryz.prog tab (fun _ => false) 82 = some f82 := by kernel_rfl
theorem b83 : fnOf Tryz.prog tab (fun _ => false) 83 = some f83 := by kernel_rfl
theorem b84 : fnOf Tryz.prog tab (fun _ => false) 84 = some f84 := by kernel_rfl
theorem b85 : fnOf Tryz.prog tab (fun _ => false) 85 = some f85 := by kernel_rfl
theorem b86 : fnOf Tryz.prog tab (fun _ => false) 86 = some f86 := by kernel_rfl
theorem b87 : fnOf Tryz.prog tab (fun _ => false) 87 = some f87 := by kernel_rfl
theorem b88 : fnOf Tryz.prog tab (fun _ => false) 88 = some f88 := by kernel_rfl
theorem b89 : fnOf Tryz.prog tab (fun _ => false) 89 = some f89 := by kernel_rfl
theorem b94 : fnOf Tryz.prog tab (fun _ => false) 94 = some f94 := by kernel_rfl
theorem b97 : fnOf Tryz.prog tab (fun _ => false) 97 = some f97 := by kernel_rfl
theorem b98 : fnOf Tryz.prog tab (fun _ => false) 98 = some f98 := by kernel_rfl
theorem b99 : fnOf Tryz.prog tab (fun _ => false) 99 = some f99 := by kernel_rfl
theorem b100 : fnOf Tryz.prog tab (fun _ => false) 100 = some f100 := by kernel_rfl
theorem b122 : fnOf Tryz.prog tab (fun _ => false) 122 = some f122 := by kernel_rfl
theorem b127 : fnOf Tryz.prog tab (fun _ => false) 127 = some f127 := by kernel_rfl
theorem b128 : fnOf Tryz.prog tab (fun _ => false) 128 = some f128 := by kernel_rfl
theorem b129 : fnOf Tryz.prog tab (fun _ => false) 129 = some f129 := by kernel_rfl
theorem b130 : fnOf Tryz.prog tab (fun _ => false) 130 = some f130 := by kernel_rfl
theorem b131 : fnOf Tryz.prog tab (fun _ => false) 131 = some f131 := by kernel_rfl
theorem b138 : fnOf Tryz.prog tab (fun _ => false) 138 = some f138 := by kernel_rfl
theorem b145 : fnOf Tryz.prog tab (fun _ => false) 145 = some f145 := by kernel_rfl
theorem b146 : fnOf Tryz.prog tab (fun _ => false) 146 = some f146 := by kernel_rfl
theorem b147 : fnOf Tryz.prog tab (fun _ => false) 147 = some f147 := by kernel_rfl
theorem b148 : fnOf Tryz.prog tab (fun _ => false) 148 = some f148 := by kernel_rfl
theorem b149 : fnOf Tryz.prog tab (fun _ => false) 149 = some f149 := by kernel_rfl
theorem b150 : fnOf Tryz.prog tab (fun _ => false) 150 = some f150 := by kernel_rfl
theorem b151 : fnOf Tryz.prog tab (fun _ => false) 151 = some f151 := by kernel_rfl
theorem b168 : fnOf Tryz.prog tab (fun _ => false) 168 = some f168 := by kernel_rfl
theorem b171 : fnOf Tryz.prog tab (fun _ => false) 171 = some f171 := by kernel_rfl
theorem b175 : fnOf Tryz.prog tab (fun _ => false) 175 = some f175 := by kernel_rfl
theorem b176 : fnOf Tryz.prog tab (fun _ => false) 176 = some f176 := by kernel_rfl
theorem b181 : fnOf Tryz.prog tab (fun _ => false) 181 = some f181 := by kernel_rfl
theorem b185 : fnOf Tryz.prog tab (fun _ => false) 185 = some f185 := by kernel_rfl
theorem b186 : fnOf Tryz.prog tab (fun _ => false) 186 = some f186 := by kernel_rfl
theorem b187 : fnOf Tryz.prog tab (fun _ => false) 187 = some f187 := by kernel_rfl
theorem b189 : fnOf Tryz.prog tab (fun _ => false) 189 = some f189 := by kernel_rfl
theorem b190 : fnOf Tryz.prog tab (fun _ => false) 190 = some f190 := by kernel_rfl
theorem b191 : fnOf Tryz.prog tab (fun _ => false) 191 = some f191 := by kernel_rfl
theorem b197 : fnOf Tryz.prog tab (fun _ => false) 197 = some f197 := by kernel_rfl
theorem b199 : fnOf Tryz.prog tab (fun _ => false) 199 = some f199 := by kernel_rfl
theorem b200 : fnOf Tryz.prog tab (fun _ => false) 200 = some f200 := by kernel_rfl
theorem b232 : fnOf Tryz.prog tab (fun _ => false) 232 = some f232 := by kernel_rfl
theorem b233 : fnOf Tryz.prog tab (fun _ => false) 233 = some f233 := by kernel_rfl
theorem b234 : fnOf Tryz.prog tab (fun _ => false) 234 = some f234 := by kernel_rfl
theorem b235 : fnOf Tryz.prog tab (fun _ => false) 235 = some f235 := by kernel_rfl
theorem b236 : fnOf Tryz.prog tab (fun _ => false) 236 = some f236 := by kernel_rfl
theorem b237 : fnOf Tryz.prog tab (fun _ => false) 237 = some f237 := by kernel_rfl
theorem b238 : fnOf Tryz.prog tab (fun _ => false) 238 = some f238 := by kernel_rfl
theorem b239 : fnOf Tryz.prog tab (fun _ => false) 239 = some f239 := by kernel_rfl
theorem b240 : fnOf Tryz.prog tab (fun _ => false) 240 = some f240 := by kernel_rfl
theorem b241 : fnOf Tryz.prog tab (fun _ => false) 241 = some f241 := by kernel_rfl
theorem b245 : fnOf Tryz.prog tab (fun _ => false) 245 = some f245 := by kernel_rfl
theorem b246 : fnOf Tryz.prog tab (fun _ => false) 246 = some f246 := by kernel_rfl
theorem b263 : fnOf Tryz.prog tab (fun _ => false) 263 = some f263 := by kernel_rfl
theorem b264 : fnOf Tryz.prog tab (fun _ => false) 264 = some f264 := by kernel_rfl
theorem b265 : fnOf Tryz.prog tab (fun _ => false) 265 = some f265 := by kernel_rfl
theorem b266 : fnOf Tryz.prog tab (fun _ => false) 266 = some f266 := by kernel_rfl
theorem b267 : fnOf Tryz.prog tab (fun _ => false) 267 = some f267 := by kernel_rfl
theorem b268 : fnOf Tryz.prog tab (fun _ => false) 268 = some f268 := by kernel_rfl
theorem b269 : fnOf Tryz.prog tab (fun _ => false) 269 = some f269 := by kernel_rfl
theorem b270 : fnOf Tryz.prog tab (fun _ => false) 270 = some f270 := by kernel_rfl
theorem b271 : fnOf Tryz.prog tab (fun _ => false) 271 = some f271 := by kernel_rfl
theorem b272 : fnOf Tryz.prog tab (fun _ => false) 272 = some f272 := by kernel_rfl
theorem b273 : fnOf Tryz.prog tab (fun _ => false) 273 = some f273 := by kernel_rfl
theorem b274 : fnOf Tryz.prog tab (fun _ => false) 274 = some f274 := by kernel_rfl
theorem b275 : fnOf Tryz.prog tab (fun _ => false) 275 = some f275 := by kernel_rfl
theorem b276 : fnOf Tryz.prog tab (fun _ => false) 276 = some f276 := by kernel_rfl
theorem b277 : fnOf Tryz.prog tab (fun _ => false) 277 = some f277 := by kernel_rfl
theorem b281 : fnOf Tryz.prog tab (fun _ => false) 281 = some f281 := by kernel_rfl
theorem b294 : fnOf Tryz.prog tab (fun _ => false) 294 = some f294 := by kernel_rfl
theorem b295 : fnOf Tryz.prog tab (fun _ => false) 295 = some f295 := by kernel_rfl
theorem b296 : fnOf Tryz.prog tab (fun _ => false) 296 = some f296 := by kernel_rfl
theorem b297 : fnOf Tryz.prog tab (fun _ => false) 297 = some f297 := by kernel_rfl
theorem b298 : fnOf Tryz.prog tab (fun _ => false) 298 = some f298 := by kernel_rfl
theorem b299 : fnOf Tryz.prog tab (fun _ => false) 299 = some f299 := by kernel_rfl
theorem b302 : fnOf Tryz.prog tab (fun _ => false) 302 = some f302 := by kernel_rfl
theorem b308 : fnOf Tryz.prog tab (fun _ => false) 308 = some f308 := by kernel_rfl
theorem b311 : fnOf Tryz.prog tab (fun _ => false) 311 = some f311 := by kernel_rfl
theorem b312 : fnOf Tryz.prog tab (fun _ => false) 312 = some f312 := by kernel_rfl
theorem b321 : fnOf Tryz.prog tab (fun _ => false) 321 = some f321 := by kernel_rfl
theorem b322 : fnOf Tryz.prog tab (fun _ => false) 322 = some f322 := by kernel_rfl
theorem b326 : fnOf Tryz.prog tab (fun _ => false) 326 = some f326 := by kernel_rfl
theorem leaf {P : Program} {f n : Nat} {y x : Fun1} {r : Option Fun1} (b : fnOf P tab (fun _ => false) n = some y) (h : (bif Nat.beq f n then some y else r) = some x) (k : r = some x → fnOf P tab (fun _ => false) f = some x) : fnOf P tab (fun _ => false) f = some x := by
  cases e : Nat.beq f n with
  | true => rw [e] at h; have := Nat.eq_of_beq_eq_true e; subst this; cases h; exact b
  | false => rw [e] at h; exact k h
theorem node {G : Prop} {c : Bool} {a b : Option Fun1} {x : Fun1} (h : (bif c then a else b) = some x) (k : a = some x → G) (l : b = some x → G) : G := by
  cases c
  · exact l h
  · exact k h
theorem tbl_ok (f : Nat) (x : Fun1) : tbl f = some x → fnOf Tryz.prog tab (fun _ => false) f = some x := fun h => node h (fun h => node h (fun h => node h (fun h => node h (fun h => node h (fun h => leaf b4 h (fun h => leaf b7 h (fun h => leaf b8 h (fun h => nomatch h)))) (fun h => node h (fun h => leaf b9 h (fun h => leaf b10 h (fun h => nomatch h))) (fun h => leaf b11 h (fun h => leaf b13 h (fun h => nomatch h))))) (fun h => node h (fun h => leaf b24 h (fun h => leaf b25 h (fun h => leaf b26 h (fun h => nomatch h)))) (fun h => node h (fun h => leaf b27 h (fun h => leaf b29 h (fun h => nomatch h))) (fun h => leaf b31 h (fun h => leaf b32 h (fun h => nomatch h)))))) (fun h => node h (fun h => node h (fun h => leaf b33 h (fun h => leaf b34 h (fun h => leaf b35 h (fun h => nomatch h)))) (fun h => node h (fun h => leaf b36 h (fun h => leaf b46 h (fun h => nomatch h))) (fun h => leaf b53 h (fun h => leaf b54 h (fun h => nomatch h))))) (fun h => node h (fun h => leaf b55 h (fun h => leaf b56 h (fun h => leaf b57 h (fun h => nomatch h)))) (fun h => node h (fun h => leaf b58 h (fun h => leaf b59 h (fun h => nomatch h))) (fun h => leaf b61 h (fun h => leaf b63 h (fun h => nomatch h))))))) (fun h => node h (fun h => node h (fun h => node h (fun h => leaf b65 h (fun h => leaf b66 h (fun h => leaf b67 h (fun h => nomatch h)))) (fun h => node h (fun h => leaf b68 h (fun h => leaf b69 h (fun h => nomatch h))) (fun h => leaf b82 h (fun h => leaf b83 h (fun h => nomatch h))))) (fun h => node h (fun h => leaf b84 h (fun h => leaf b85 h (fun h => leaf b86 h (fun h => nomatch h)))) (fun h => node h (fun h => leaf b87 h (fun h => leaf b88 h (fun h => nomatch h))) (fun h => leaf b89 h (fun h => leaf b94 h (fun h => nomatch h)))))) (fun h => node h (fun h => node h (fun h => leaf b97 h (fun h => leaf b98 h (fun h => leaf b99 h (fun h => nomatch h)))) (fun h => node h (fun h => leaf b100 h (fun h => leaf b122 h (fun h => nomatch h))) (fun h => leaf b127 h (fun h => leaf b128 h (fun h => nomatch h))))) (fun h => node h (fun h => node h (fun h => leaf b129 h (fun h => leaf b130 h (fun h => nomatch h))) (fun h => leaf b131 h (fun h => leaf b138 h (fun h => nomatch h)))) (fun h => node h (fun h => leaf b145 h (fun h => leaf b146 h (fun h => nomatch h))) (fun h => leaf b147 h (fun h => leaf b148 h (fun h => nomatch h)))))))) (fun h => node h (fun h => node h (fun h => node h (fun h => node h (fun h => leaf b149 h (fun h => leaf b150 h (fun h => leaf b151 h (fun h => nomatch h)))) (fun h => node h (fun h => leaf b168 h (fun h => leaf b171 h (fun h => nomatch h))) (fun h => leaf b175 h (fun h => leaf b176 h (fun h => nomatch h))))) (fun h => node h (fun h => leaf b181 h (fun h => leaf b185 h (fun h => leaf b186 h (fun h => nomatch h)))) (fun h => node h (fun h => leaf b187 h (fun h => leaf b189 h (fun h => nomatch h))) (fun h => leaf b190 h (fun h => leaf b191 h (fun h => nomatch h)))))) (fun h => node h (fun h => node h (fun h => leaf b197 h (fun h => leaf b199 h (fun h => leaf b200 h (fun h => nomatch h)))) (fun h => node h (fun h => leaf b232 h (fun h => leaf b233 h (fun h => nomatch h))) (fun h => leaf b234 h (fun h => leaf b235 h (fun h => nomatch h))))) (fun h => node h (fun h => node h (fun h => leaf b236 h (fun h => leaf b237 h (fun h => nomatch h))) (fun h => leaf b238 h (fun h => leaf b239 h (fun h => nomatch h)))) (fun h => node h (fun h => leaf b240 h (fun h => leaf b241 h (fun h => nomatch h))) (fun h => leaf b245 h (fun h => leaf b246 h (fun h => nomatch h))))))) (fun h => node h (fun h => node h (fun h => node h (fun h => leaf b263 h (fun h => leaf b264 h (fun h => leaf b265 h (fun h => nomatch h)))) (fun h => node h (fun h => leaf b266 h (fun h => leaf b267 h (fun h => nomatch h))) (fun h => leaf b268 h (fun h => leaf b269 h (fun h => nomatch h))))) (fun h => node h (fun h => leaf b270 h (fun h => leaf b271 h (fun h => leaf b272 h (fun h => nomatch h)))) (fun h => node h (fun h => leaf b273 h (fun h => leaf b274 h (fun h => nomatch h))) (fun h => leaf b275 h (fun h => leaf b276 h (fun h => nomatch h)))))) (fun h => node h (fun h => node h (fun h => leaf b277 h (fun h => leaf b281 h (fun h => leaf b294 h (fun h => nomatch h)))) (fun h => node h (fun h => leaf b295 h (fun h => leaf b296 h (fun h => nomatch h))) (fun h => leaf b297 h (fun h => leaf b298 h (fun h => nomatch h))))) (fun h => node h (fun h => node h (fun h => leaf b299 h (fun h => leaf b302 h (fun h => nomatch h))) (fun h => leaf b308 h (fun h => leaf b311 h (fun h => nomatch h)))) (fun h => node h (fun h => leaf b312 h (fun h => leaf b321 h (fun h => nomatch h))) (fun h => leaf b322 h (fun h => leaf b326 h (fun h => nomatch h))))))))
theorem leafX {f n : Nat} {y : Fun1} {r : Option Fun1} {x : Xfn} {G : Prop} (h : (bif Nat.beq f n then some y else r) = some (.ext x)) (k : f = n → y = .ext x → G) (l : r = some (.ext x) → G) : G := by
  cases e : Nat.beq f n with
  | true => rw [e] at h; exact k (Nat.eq_of_beq_eq_true e) (by simpa using h)
  | false => rw [e] at h; exact l h
theorem x94 (f : Nat) (x : Xfn) (e : f = 94) (hx : f94 = .ext x) (fn : Func) (h : Tryz.prog.funcs[f]? = some fn) : Extern.findNext fn = none ∧ Extern.find fn = some (extFn x) := by
  subst e
  have hx : Fun1.ext .same = .ext x := hx
  cases hx
  rw [Tryz.func94] at h
  cases h
  exact ⟨by kernel_rfl, by kernel_rfl⟩
theorem x171 (f : Nat) (x : Xfn) (e : f = 171) (hx : f171 = .ext x) (fn : Func) (h : Tryz.prog.funcs[f]? = some fn) : Extern.findNext fn = none ∧ Extern.find fn = some (extFn x) := by
  subst e
  have hx : Fun1.ext .indexByte = .ext x := hx
  cases hx
  rw [Tryz.func171] at h
  cases h
  exact ⟨by kernel_rfl, by kernel_rfl⟩
theorem x175 (f : Nat) (x : Xfn) (e : f = 175) (hx : f175 = .ext x) (fn : Func) (h : Tryz.prog.funcs[f]? = some fn) : Extern.findNext fn = none ∧ Extern.find fn = some (extFn x) := by
  subst e
  have hx : Fun1.ext .count = .ext x := hx
  cases hx
  rw [Tryz.func175] at h
  cases h
  exact ⟨by kernel_rfl, by kernel_rfl⟩
theorem ext_ok (f : Nat) (x : Xfn) : tbl f = some (.ext x) → ∀ fn : Func, Tryz.prog.funcs[f]? = some fn → Extern.findNext fn = none ∧ Extern.find fn = some (extFn x) := fun h => node h (fun h => node h (fun h => node h (fun h => node h (fun h => node h (fun h => leafX h (fun _ h => nomatch (show Fun1.code _ _ _ _ = .ext x from h)) (fun h => leafX h (fun _ h => nomatch (show Fun1.code _ _ _ _ = .ext x from h)) (fun h => leafX h (fun _ h => nomatch (show Fun1.code _ _ _ _ = .ext x from h)) (fun h => nomatch h)))) (fun h => node h (fun h => leafX h (fun _ h => nomatch (show Fun1.code _ _ _ _ = .ext x from h)) (fun h => leafX h (fun _ h => nomatch (show Fun1.code _ _ _ _ = .ext x from h)) (fun h => nomatch h))) (fun h => leafX h (fun _ h => nomatch (show Fun1.code _ _ _ _ = .ext x from h)) (fun h => leafX h (fun _ h => nomatch (show Fun1.code _ _ _ _ = .ext x from h)) (fun h => nomatch h))))) (fun h => node h (fun h => leafX h (fun _ h => nomatch (show Fun1.code _ _ _ _ = .ext x from h)) (fun h => leafX h (fun _ h => nomatch (show Fun1.code _ _ _ _ = .ext x from h)) (fun h => leafX h (fun _ h => nomatch (show Fun1.code _ _ _ _ = .ext x from h)) (fun h => nomatch h)))) (fun h => node h (fun h => leafX h (fun _ h => nomatch (show Fun1.code _ _ _ _ = .ext x from h)) (fun h => leafX h (fun _ h => nomatch (show Fun1.code _ _ _ _ = .ext x from h)) (fun h => nomatch h))) (fun h => leafX h (fun _ h => nomatch (show Fun1.code _ _ _ _ = .ext x from h)) (fun h => leafX h (fun _ h => nomatch (show Fun1.code _ _ _ _ = .ext x from h)) (fun h => nomatch h)))))) (fun h => node h (fun h => node h (fun h => leafX h (fun _ h => nomatch (show Fun1.code _ _ _ _ = .ext x from h)) (fun h => leafX h (fun _ h => nomatch (show Fun1.code _ _ _ _ = .ext x from h)) (fun h => leafX h (fun _ h => nomatch (show Fun1.code _ _ _ _ = .ext x from h)) (fun h => nomatch h)))) (fun h => node h (fun h => leafX h (fun _ h => nomatch (show Fun1.code _ _ _ _ = .ext x from h)) (fun h => leafX h (fun _ h => nomatch (show Fun1.code _ _ _ _ = .ext x from h)) (fun h => nomatch h))) (fun h => leafX h (fun _ h => nomatch (show Fun1.code _ _ _ _ = .ext x from h)) (fun h => leafX h (fun _ h => nomatch (show Fun1.code _ _ _ _ = .ext x from h)) (fun h => nomatch h))))) (fun h => node h (fun h => leafX h (fun _ h => nomatch (show Fun1.code _ _ _ _ = .ext x from h)) (fun h => leafX h (fun _ h => nomatch (show Fun1.code _ _ _ _ = .ext x from h)) (fun h => leafX h (fun _ h => nomatch (show Fun1.code _ _ _ _ = .ext x from h)) (fun h => nomatch h)))) (fun h => node h (fun h => leafX h (fun _ h => nomatch (show Fun1.code _ _ _ _ = .ext x from h)) (fun h => leafX h (fun _ h => nomatch (show Fun1.code _ _ _ _ = .ext x from h)) (fun h => nomatch h))) (fun h => leafX h (fun _ h => nomatch (show Fun1.code _ _ _ _ = .ext x from h)) (fun h => leafX h (fun _ h => nomatch (show Fun1.code _ _ _ _ = .ext x from h)) (fun h => nomatch h))))))) (fun h => node h (fun h => node h (fun h => node h (fun h => leafX h (fun _ h => nomatch (show Fun1.code _ _ _ _ = .ext x from h)) (fun h => leafX h (fun _ h => nomatch (show Fun1.code _ _ _ _ = .ext x from h)) (fun h => leafX h (fun _ h => nomatch (show Fun1.code _ _ _ _ = .ext x from h)) (fun h => nomatch h)))) (fun h => node h (fun h => leafX h (fun _ h => nomatch (show Fun1.code _ _ _ _ = .ext x from h)) (fun h => leafX h (fun _ h => nomatch (show Fun1.code _ _ _ _ = .ext x from h)) (fun h => nomatch h))) (fun h => leafX h (fun _ h => nomatch (show Fun1.code _ _ _ _ = .ext x from h)) (fun h => leafX h (fun _ h => nomatch (show Fun1.code _ _ _ _ = .ext x from h)) (fun h => nomatch h))))) (fun h => node h (fun h => leafX h (fun _ h => nomatch (show Fun1.code _ _ _ _ = .ext x from h)) (fun h => leafX h (fun _ h => nomatch (show Fun1.code _ _ _ _ = .ext x from h)) (fun h => leafX h (fun _ h => nomatch (show Fun1.code _ _ _ _ = .ext x from h)) (fun h => nomatch h)))) (fun h => node h (fun h => leafX h (fun _ h => nomatch (show Fun1.code _ _ _ _ = .ext x from h)) (fun h => leafX h (fun _ h => nomatch (show Fun1.code _ _ _ _ = .ext x from h)) (fun h => nomatch h))) (fun h => leafX h (fun _ h => nomatch (show Fun1.code _ _ _ _ = .ext x from h)) (fun h => leafX h (x94 f x) (fun h => nomatch h)))))) (fun h => node h (fun h => node h (fun h => leafX h (fun _ h => nomatch (show Fun1.code _ _ _ _ = .ext x from h)) (fun h => leafX h (fun _ h => nomatch (show Fun1.code _ _ _ _ = .ext x from h)) (fun h => leafX h (fun _ h => nomatch (show Fun1.code _ _ _ _ = .ext x from h)) (fun h => nomatch h)))) (fun h => node h (fun h => leafX h (fun _ h => nomatch (show Fun1.code _ _ _ _ = .ext x from h)) (fun h => leafX h (fun _ h => nomatch (show Fun1.code _ _ _ _ = .ext x from h)) (fun h => nomatch h))) (fun h => leafX h (fun _ h => nomatch (show Fun1.code _ _ _ _ = .ext x from h)) (fun h => leafX h (fun _ h => nomatch (show Fun1.code _ _ _ _ = .ext x from h)) (fun h => nomatch h))))) (fun h => node h (fun h => node h (fun h => leafX h (fun _ h => nomatch (show Fun1.code _ _ _ _ = .ext x from h)) (fun h => leafX h (fun _ h => nomatch (show Fun1.code _ _ _ _ = .ext x from h)) (fun h => nomatch h))) (fun h => leafX h (fun _ h => nomatch (show Fun1.code _ _ _ _ = .ext x from h)) (fun h => leafX h (fun _ h => nomatch (show Fun1.code _ _ _ _ = .ext x from h)) (fun h => nomatch h)))) (fun h => node h (fun h => leafX h (fun _ h => nomatch (show Fun1.code _ _ _ _ = .ext x from h)) (fun h => leafX h (fun _ h => nomatch (show Fun1.code _ _ _ _ = .ext x from h)) (fun h => nomatch h))) (fun h => leafX h (fun _ h => nomatch (show Fun1.code _ _ _ _ = .ext x from h)) (fun h => leafX h (fun _ h => nomatch (show Fun1.code _ _ _ _ = .ext x from h)) (fun h => nomatch h)))))))) (fun h => node h (fun h => node h (fun h => node h (fun h => node h (fun h => leafX h (fun _ h => nomatch (show Fun1.code _ _ _ _ = .ext x from h)) (fun h => leafX h (fun _ h => nomatch (show Fun1.code _ _ _ _ = .ext x from h)) (fun h => leafX h (fun _ h => nomatch (show Fun1.code _ _ _ _ = .ext x from h)) (fun h => nomatch h)))) (fun h => node h (fun h => leafX h (fun _ h => nomatch (show Fun1.code _ _ _ _ = .ext x from h)) (fun h => leafX h (x171 f x) (fun h => nomatch h))) (fun h => leafX h (x175 f x) (fun h => leafX h (fun _ h => nomatch (show Fun1.code _ _ _ _ = .ext x from h)) (fun h => nomatch h))))) (fun h => node h (fun h => leafX h (fun _ h => nomatch (show Fun1.code _ _ _ _ = .ext x from h)) (fun h => leafX h (fun _ h => nomatch (show Fun1.code _ _ _ _ = .ext x from h)) (fun h => leafX h (fun _ h => nomatch (show Fun1.code _ _ _ _ = .ext x from h)) (fun h => nomatch h)))) (fun h => node h (fun h => leafX h (fun _ h => nomatch (show Fun1.code _ _ _ _ = .ext x from h)) (fun h => leafX h (fun _ h => nomatch (show Fun1.code _ _ _ _ = .ext x from h)) (fun h => nomatch h))) (fun h => leafX h (fun _ h => nomatch (show Fun1.code _ _ _ _ = .ext x from h)) (fun h => leafX h (fun _ h => nomatch (show Fun1.code _ _ _ _ = .ext x from h)) (fun h => nomatch h)))))) (fun h => node h (fun h => node h (fun h => leafX h (fun _ h => nomatch (show Fun1.code _ _ _ _ = .ext x from h)) (fun h => leafX h (fun _ h => nomatch (show Fun1.code _ _ _ _ = .ext x from h)) (fun h => leafX h (fun _ h => nomatch (show Fun1.code _ _ _ _ = .ext x from h)) (fun h => nomatch h)))) (fun h => node h (fun h => leafX h (fun _ h => nomatch (show Fun1.code _ _ _ _ = .ext x from h)) (fun h => leafX h (fun _ h => nomatch (show Fun1.code _ _ _ _ = .ext x from h)) (fun h => nomatch h))) (fun h => leafX h (fun _ h => nomatch (show Fun1.code _ _ _ _ = .ext x from h)) (fun h => leafX h (fun _ h => nomatch (show Fun1.code _ _ _ _ = .ext x from h)) (fun h => nomatch h))))) (fun h => node h (fun h => node h (fun h => leafX h (fun _ h => nomatch (show Fun1.code _ _ _ _ = .ext x from h)) (fun h => leafX h (fun _ h => nomatch (show Fun1.code _ _ _ _ = .ext x from h)) (fun h => nomatch h))) (fun h => leafX h (fun _ h => nomatch (show Fun1.code _ _ _ _ = .ext x from h)) (fun h => leafX h (fun _ h => nomatch (show Fun1.code _ _ _ _ = .ext x from h)) (fun h => nomatch h)))) (fun h => node h (fun h => leafX h (fun _ h => nomatch (show Fun1.code _ _ _ _ = .ext x from h)) (fun h => leafX h (fun _ h => nomatch (show Fun1.code _ _ _ _ = .ext x from h)) (fun h => nomatch h))) (fun h => leafX h (fun _ h => nomatch (show Fun1.code _ _ _ _ = .ext x from h)) (fun h => leafX h (fun _ h => nomatch (show Fun1.code _ _ _ _ = .ext x from h)) (fun h => nomatch h))))))) (fun h => node h (fun h => node h (fun h => node h (fun h => leafX h (fun _ h => nomatch (show Fun1.code _ _ _ _ = .ext x from h)) (fun h => leafX h (fun _ h => nomatch (show Fun1.code _ _ _ _ = .ext x from h)) (fun h => leafX h (fun _ h => nomatch (show Fun1.code _ _ _ _ = .ext x from h)) (fun h => nomatch h)))) (fun h => node h (fun h => leafX h (fun _ h => nomatch (show Fun1.code _ _ _ _ = .ext x from h)) (fun h => leafX h (fun _ h => nomatch (show Fun1.code _ _ _ _ = .ext x from h)) (fun h => nomatch h))) (fun h => leafX h (fun _ h => nomatch (show Fun1.code _ _ _ _ = .ext x from h)) (fun h => leafX h (fun _ h => nomatch (show Fun1.code _ _ _ _ = .ext x from h)) (fun h => nomatch h))))) (fun h => node h (fun h => leafX h (fun _ h => nomatch (show Fun1.code _ _ _ _ = .ext x from h)) (fun h => leafX h (fun _ h => nomatch (show Fun1.code _ _ _ _ = .ext x from h)) (fun h => leafX h (fun _ h => nomatch (show Fun1.code _ _ _ _ = .ext x from h)) (fun h => nomatch h)))) (fun h => node h (fun h => leafX h (fun _ h => nomatch (show Fun1.code _ _ _ _ = .ext x from h)) (fun h => leafX h (fun _ h => nomatch (show Fun1.code _ _ _ _ = .ext x from h)) (fun h => nomatch h))) (fun h => leafX h (fun _ h => nomatch (show Fun1.code _ _ _ _ = .ext x from h)) (fun h => leafX h (fun _ h => nomatch (show Fun1.code _ _ _ _ = .ext x from h)) (fun h => nomatch h)))))) (fun h => node h (fun h => node h (fun h => leafX h (fun _ h => nomatch (show Fun1.code _ _ _ _ = .ext x from h)) (fun h => leafX h (fun _ h => nomatch (show Fun1.code _ _ _ _ = .ext x from h)) (fun h => leafX h (fun _ h => nomatch (show Fun1.code _ _ _ _ = .ext x from h)) (fun h => nomatch h)))) (fun h => node h (fun h => leafX h (fun _ h => nomatch (show Fun1.code _ _ _ _ = .ext x from h)) (fun h => leafX h (fun _ h => nomatch (show Fun1.code _ _ _ _ = .ext x from h)) (fun h => nomatch h))) (fun h => leafX h (fun _ h => nomatch (show Fun1.code _ _ _ _ = .ext x from h)) (fun h => leafX h (fun _ h => nomatch (show Fun1.code _ _ _ _ = .ext x from h)) (fun h => nomatch h))))) (fun h => node h (fun h => node h (fun h => leafX h (fun _ h => nomatch (show Fun1.code _ _ _ _ = .ext x from h)) (fun h => leafX h (fun _ h => nomatch (show Fun1.code _ _ _ _ = .ext x from h)) (fun h => nomatch h))) (fun h => leafX h (fun _ h => nomatch (show Fun1.code _ _ _ _ = .ext x from h)) (fun h => leafX h (fun _ h => nomatch (show Fun1.code _ _ _ _ = .ext x from h)) (fun h => nomatch h)))) (fun h => node h (fun h => leafX h (fun _ h => nomatch (show Fun1.code _ _ _ _ = .ext x from h)) (fun h => leafX h (fun _ h => nomatch (show Fun1.code _ _ _ _ = .ext x from h)) (fun h => nomatch h))) (fun h => leafX h (fun _ h => nomatch (show Fun1.code _ _ _ _ = .ext x from h)) (fun h => leafX h (fun _ h => nomatch (show Fun1.code _ _ _ _ = .ext x from h)) (fun h => nomatch h))))))))
end Go.Sim.Ir

