import PyProof.Rows.All
import Wide.All
import OpenK.AllK
import Wide.FinOn
import HandS.ForMost
import HandS.ForExc
import HandS.Property
import HandS.IsInst
import HandS.Flow
import HandS.WideBits
import HandS.TupAny
import HandS.SortInts
import HandS.Conv
import HandS.Lambda
import HandS.HotCalls
import HandS.Exc
import HandS.Deep
import HandS.TupMul
import HandS.Wide
import HandS.Small
import HandS.Replace
import HandS.Text
import PyProof.ReprRoads
import HandS.Ends
import HandS.SetTxt0
import HandS.SetFor
import HandS.Strs
import HandS.ExcValue
import KE.OsRunLaw
import HandS.Style
import KE.KDictList
import HandS.TupLe
import HandS.Zip
import KE.KFmtOwn
import KE.KDictZip
import KE.KItemsList
import HandS.EndBits
import HandS.SortOrd
import KE.KExcInit
import KE.KTryMore
import KE.KExcIs
import HandS.EndTab
import PyProof.NeKinds
import HandS.ClsMeth
import HandS.TryOnly
import HandS.Codes
import HandS.HeadHook3
import PyProof.Rows.RegReprOcc
import PyProof.TupleOfStr
import PyProof.SliceStr2
import PyProof.Rows.SortShellAny
import PyProof.EqKinds
import PyProof.FactsAll.dict_1
import PyProof.Rows.Range3
import KE.GoesEnum
import KE.GoesNew
import HandS.TryMany
import HandS.Star
import HandS.ReplaceLit
import HandS.ReplaceList
import HandS.DictComp
import OpenK.KMake
import PySem.Challenge.RW_nevermixed_k01_limits_and_errors
set_option Elab.async false
set_option linter.all false
set_option maxRecDepth 100000
set_option maxHeartbeats 4000000
namespace LW
section
open PySem PySem.W PyProof.Rows
local macro_rules | `(tactic| o_head $H) => `(tactic| (have hook := $H; assumption))
theorem hd_t0 (h0 : PySem.Challenge.rw_nevermixed_k01_limits_and_errors.row.Holds) : PySem.Challenge.rw_nevermixed_k01_limits_and_errors.row.Holds := by k_head
end
noncomputable section
open PySem PySem.W PySem.Calls PyProof.Rows HeadRun
noncomputable def hd_vw : Program := { PySem.Challenge.pw_nevermixed_k01_limits_and_errors with main := { PySem.Challenge.pw_nevermixed_k01_limits_and_errors.main with body := (([1, 2, 3, 4, 5, 6, 7, 8, 9, 10, 11, 12, 13, 14, 15, 16, 17, 18, 19, 20, 21, 22, 23, 24,
    25, 26, 27, 28, 29, 30, 32, 33, 34, 35, 36, 37, 38, 39, 40, 41, 42] : List Nat).map fun i => PySem.Challenge.pw_nevermixed_k01_limits_and_errors.main.body.getD i (.Pass ⟨0, 0, 0, 0⟩)) } }
def hd_lo : List PySem.Str := []
def hd_as : List Addr := [2, 3, 15, 22, 23, 24, 25, 28, 35, 37, 38, 40, 41, 42, 43, 44, 47, 54, 56, 57,
    59, 60, 61, 62, 63, 66, 73, 75, 76, 78, 79, 80, 81, 82, 85, 92, 94, 95, 97, 98,
    99, 100, 101, 104, 111, 113, 114, 116, 117, 118, 119, 120, 123, 130, 132, 133, 135, 136, 137, 138,
    139, 142, 149, 151, 152, 154, 155, 156, 157, 158, 161, 168, 170, 171, 173, 174, 175, 176, 177, 180,
    187, 189, 190, 192, 193, 194, 195, 196, 199, 206, 208, 209, 211, 212, 213, 214, 215, 218, 225, 227,
    228, 230, 231, 232, 233, 234, 237, 244, 246, 247, 249, 250, 251, 252, 253, 256, 263, 265, 266, 268,
    269, 270, 271, 272, 275, 282, 284, 285, 287, 288, 289, 290, 291, 294, 301, 303, 304, 306, 307, 308,
    309, 310, 313, 320, 321, 322, 323, 326, 333, 335, 336, 338, 339, 340, 341, 342, 345, 352, 353, 354,
    355, 358, 365, 366, 367, 370, 377, 379, 380, 382, 383, 384, 385, 386, 389, 396, 398, 399, 401, 402,
    403, 404, 405, 408, 415, 417, 418, 420, 421, 422, 423, 424, 427, 434, 436, 437, 439, 440, 441, 442,
    443, 446, 453, 455, 456, 458, 459, 460, 461, 462, 465, 467, 468, 470, 471, 472, 474, 475, 477, 478,
    479, 481, 482, 484, 485, 486, 488, 489, 491, 492, 493, 495, 496, 498, 499, 500, 502, 503, 505, 506,
    507, 509, 510, 512, 513, 514, 516, 517, 519, 520, 521, 523, 524, 526, 527, 528, 531, 532, 533, 536,
    537]
theorem hd_ek : ∀ P, hd_as = (hd_t0.heap_1 P).map (·.1) := fun _ => by kernel_rfl
noncomputable abbrev hd_hk : Hook := kHook hd_t0.heap_1 hd_as hd_ek
noncomputable def hd_xt (s : Shared) : Bool := xlAt hd_vw [] s && recOk (RowW.records PySem.Challenge.rw_nevermixed_k01_limits_and_errors.row.toRowW) s
theorem hd_open : opening PySem.Challenge.pw_nevermixed_k01_limits_and_errors = plainProg PySem.Challenge.pw_nevermixed_k01_limits_and_errors.main.scope.names := by kernel_rfl
theorem hd_fence (s : Shared) : fenceModules? PySem.Challenge.pw_nevermixed_k01_limits_and_errors s = some s := by kernel_rfl
noncomputable def hd_fin (w : World) (os : OsState) : Option SharedT := endF (stepQ (denQ tabQ) PySem.Challenge.pw_nevermixed_k01_limits_and_errors w) 12766 PySem.Challenge.pw_nevermixed_k01_limits_and_errors w os
noncomputable abbrev hd_seen (s : SharedT) := seenQ hd_vw hd_lo (importedModules PySem.Challenge.pw_nevermixed_k01_limits_and_errors.main.body) hd_xt s.abs
theorem hd_two {σ A B : Type} {x : Option σ} {F : σ → A × B} {v : A × B} (h1 : x.map (fun s => (F s).1) = some v.1) (h2 : x.map (fun s => (F s).2) = some v.2) : x.map F = some v := by
  cases x with
  | none => cases h1
  | some s => exact congrArg some (Prod.ext (Option.some.inj h1) (Option.some.inj h2))
theorem hd_fst {σ A B : Type} {x : Option σ} {f : σ → A} {g : σ → B} {a : A} {b : B} (h : x.map (fun s => (f s, g s)) = some (a, b)) : x.map f = some a := by
  cases x with
  | none => cases h
  | some s => exact congrArg some (congrArg Prod.fst (Option.some.inj h))
theorem hd_snd {σ A B : Type} {x : Option σ} {f : σ → A} {g : σ → B} {a : A} {b : B} (h : x.map (fun s => (f s, g s)) = some (a, b)) : x.map g = some b := by
  cases x with
  | none => cases h
  | some s => exact congrArg some (congrArg Prod.snd (Option.some.inj h))
def hd_lw : List PySem.Str := []
theorem hd_lwe : looseW hd_vw hd_lo = hd_lw := by kernel_rfl
theorem hd_g1 (w : World) (os : OsState) : (hd_fin w os).map (fun s => (looksF PySem.Challenge.pw_nevermixed_k01_limits_and_errors (boot_heap w.params) s.abs, hd_as.map (getT s), (hd_seen s).2.1, (hd_seen s).2.2.2.2.1, (hd_seen s).2.2.2.2.2.2.1, (hd_seen s).2.2.2.2.2.2.2.2)) = some (true, (hd_t0.heap_1 w.params).map fun x => some x.2, bltViewBooted, pinGoodD (drecsOf hd_vw), plainGoodD hd_vw hd_lo, clsGoodW hd_vw hd_lo) := by kernel_rfl
theorem hd_s0 (w : World) (os : OsState) : (hd_fin w os).map (fun s => (hd_seen s).1) = some (expectedOf hd_vw) := by kernel_rfl
theorem hd_s2 (w : World) (os : OsState) : (hd_fin w os).map (fun s => (hd_seen s).2.2.1) = some (true) := by kernel_rfl
theorem hd_s3 (w : World) (os : OsState) : (hd_fin w os).map (fun s => (hd_seen s).2.2.2.1) = some (true) := by kernel_rfl
theorem hd_s7 (w : World) (os : OsState) : (hd_fin w os).map (fun s => (hd_seen s).2.2.2.2.2.2.2.1) = some (wideGood hd_vw) := by kernel_rfl
theorem hd_o5 (w : World) (os : OsState) : (hd_fin w os).map (fun s => plainSeenE hd_vw hd_lw s.abs) = some (plainGoodE hd_vw hd_lw) := by kernel_rfl
theorem hd_s5 (w : World) (os : OsState) : (hd_fin w os).map (fun s => (hd_seen s).2.2.2.2.2.1) = some (plainGoodE hd_vw (looseW hd_vw hd_lo)) := by
  have e : (fun s : SharedT => (hd_seen s).2.2.2.2.2.1) = fun s => plainSeenE hd_vw hd_lw s.abs := funext fun s => by
    rw [← hd_lwe]
    exact congrArg (fun x => x.2.2.2.2.2.1) (seenQ_eq hd_vw hd_lo (importedModules PySem.Challenge.pw_nevermixed_k01_limits_and_errors.main.body) hd_xt s.abs).symm
  rw [e, hd_lwe]
  exact hd_o5 w os
theorem hd_run2 (w : World) (os : OsState) : (hd_fin w os).map hd_seen = some (openGood hd_vw hd_lo) := (hd_two (hd_s0 w os) (hd_two (hd_fst (hd_snd (hd_snd (hd_g1 w os)))) (hd_two (hd_s2 w os) (hd_two (hd_s3 w os) (hd_two (hd_fst (hd_snd (hd_snd (hd_snd (hd_g1 w os))))) (hd_two (hd_s5 w os) (hd_two (hd_fst (hd_snd (hd_snd (hd_snd (hd_snd (hd_g1 w os)))))) (hd_two (hd_s7 w os) (hd_snd (hd_snd (hd_snd (hd_snd (hd_snd (hd_g1 w os))))))))))))))
theorem hd_all {σ A B C : Type} {x : Option σ} {f : σ → A} {g : σ → B} {h : σ → C} {a : A} {b : B} {c : C} (h1 : x.map f = some a) (h2 : x.map g = some b) (h3 : x.map h = some c) : x.map (fun s => (f s, g s, h s)) = some (a, b, c) := by
  cases x with
  | none => cases h1
  | some s => exact congrArg some (Prod.ext (Option.some.inj h1) (Prod.ext (Option.some.inj h2) (Option.some.inj h3)))
theorem hd_left : LeftO PySem.Challenge.pw_nevermixed_k01_limits_and_errors hd_vw hd_lo hd_xt hd_hk.obs hd_hk.val 13466 true := left_oneK (M := 12766) hd_open (by decide) hd_fence (by decide) fun w os => hd_all (hd_fst (hd_g1 w os)) (hd_run2 w os) (hd_fst (hd_snd (hd_g1 w os)))
end
end LW
namespace DL
open PySem L2

/-! ### data -/
abbrev Cs := List Nat
def toS (cs : Cs) : Str := ⟨cs.toArray⟩
def sz : Nat := 16777216
def okS (cs : Cs) : Prop := cs.length ≤ sz ∧ ∀ c ∈ cs, c < 0x110000
instance (cs : Cs) : Decidable (okS cs) := by unfold okS; infer_instance
inductive DK where
  | i (n : Int) | s (cs : Cs)
  deriving DecidableEq
def okK : DK → Prop
  | .i _ => True
  | .s cs => okS cs
def DK.key : DK → Key
  | .i n => .inl n
  | .s cs => .inr (toS cs)
inductive D where
  | non | bl (b : Bool) | int (i : Int) | str (cs : Cs)
  | tup (xs : List D) | lst (xs : List D) | dct (kvs : List (DK × D))
  | ins (c : String) (fs : List (String × D))
  | gl (x : String) | ty (n : String)
  | exc (c : String) (fs : List (String × D))
instance : Inhabited D := ⟨.non⟩

theorem toS_inj {a b : Cs} (h : toS a = toS b) : a = b := by
  have := congrArg (fun s => s.cps.toList) h
  simpa [toS] using this
theorem toS_cps (cs : Cs) : (toS cs).cps.toList = cs := by simp [toS]
theorem toS_length (cs : Cs) : (toS cs).length = cs.length := by simp [toS, Str.length]
theorem key_inj {a b : DK} (h : a.key = b.key) : a = b := by
  cases a <;> cases b <;> simp [DK.key] at h
  · rw [h]
  · rw [toS_inj h]

/-- at e: an exception of the class at C, made and not raised, its dict -/
def eXo (e C : Addr) (d : Option Addr) : HO := .ext fun h => ∃ (oe : Obj) (vs : Array Value), h.get? e = some oe ∧ Zc (.ref C) d oe ∧ oe.data = .fields vs ∧ vs[1]? = some .none
section
variable (K : PySem.W.Frag) (mg : Str → Option Value)
mutual
inductive Dn (F : Hp) : V → D → Prop where
  | non : Dn F .non .non
  | bl (b : Bool) : Dn F (.bl b) (.bl b)
  | int (i : Int) : Dn F (.int i) (.int i)
  | str (cs : Cs) (h : okS cs) : Dn F (.str (toS cs)) (.str cs)
  | ty (n : String) : Dn F (.ty n) (.ty n)
  | gl {x : String} {a : Addr} (h : mg (Str.ofString x) = some (.ref a)) : Dn F (.ref a) (.gl x)
  | tup {a : Addr} {vs : List V} {ds : List D} (h : SqT K F a vs) (r : Dns F vs ds) (hl : ds.length ≤ sz) : Dn F (.ref a) (.tup ds)
  | lst {a : Addr} {vs : List V} {ds : List D} (h : Rd F a (.lst vs)) (r : Dns F vs ds) (hl : ds.length ≤ sz) : Dn F (.ref a) (.lst ds)
  | dct {a : Addr} {kvs : List (Key × V)} {kds : List (DK × D)} {o : Obj} (h : F a = some (.frz o (.dK kvs))) (r : Dkv F kvs kds) (hl : kds.length ≤ sz) : Dn F (.ref a) (.dct kds)
  | ins {a C dx : Addr} {c : String} {vs : List (Str × V)} {fs : List (String × D)} (g : mg (Str.ofString c) = some (.ref C)) (h : F a = some (.ins C dx vs)) (r : Dfs F vs fs) : Dn F (.ref a) (.ins c fs)
  | exc {a C : Addr} {dx : Option Addr} {c : String} {vs : List (Str × V)} {fs : List (String × D)} (g : mg (Str.ofString c) = some (.ref C)) (h : F a = some (eXo a C dx)) (hd : (vs = [] ∧ dx = none) ∨ ∃ d, dx = some d ∧ F d = some (.xd vs)) (r : Dfs F vs fs) : Dn F (.ref a) (.exc c fs)
inductive Dns (F : Hp) : List V → List D → Prop where
  | nil : Dns F [] []
  | cons {v : V} {d : D} {vs : List V} {ds : List D} (h : Dn F v d) (r : Dns F vs ds) : Dns F (v :: vs) (d :: ds)
inductive Dkv (F : Hp) : List (Key × V) → List (DK × D) → Prop where
  | nil : Dkv F [] []
  | cons {k : DK} {v : V} {d : D} {vs : List (Key × V)} {ds : List (DK × D)} (hk : okK k) (h : Dn F v d) (r : Dkv F vs ds) : Dkv F ((k.key, v) :: vs) ((k, d) :: ds)
inductive Dfs (F : Hp) : List (Str × V) → List (String × D) → Prop where
  | nil : Dfs F [] []
  | cons {k : String} {v : V} {d : D} {vs : List (Str × V)} {ds : List (String × D)} (h : Dn F v d) (r : Dfs F vs ds) : Dfs F ((Str.ofString k, v) :: vs) ((k, d) :: ds)
end
end

section
variable {K : PySem.W.Frag} {mg : Str → Option Value} {F F' H H' : Hp}
theorem same_rd {a : Addr} {u : HO} (e : Same F F') (h : Rd F a u) : Rd F' a u := by
  rcases h with h | ⟨o, h⟩
  · exact .inl (e _ _ h)
  · exact .inr ⟨o, e _ _ h⟩
theorem same_t {a : Addr} {xs : List V} (e : Same F F') (h : SqT K F a xs) : SqT K F' a xs := by
  rcases h with h | h
  · exact .inl (same_rd e h)
  · exact .inr h
mutual
theorem Dn.mono (e : Same F F') : ∀ {v : V} {d : D}, Dn K mg F v d → Dn K mg F' v d
  | _, _, .non => .non
  | _, _, .bl b => .bl b
  | _, _, .int i => .int i
  | _, _, .str cs h => .str cs h
  | _, _, .ty n => .ty n
  | _, _, .gl h => .gl h
  | _, _, .tup h r hl => .tup (same_t e h) (r.mono e) hl
  | _, _, .lst h r hl => .lst (same_rd e h) (r.mono e) hl
  | _, _, .dct h r hl => .dct (e _ _ h) (r.mono e) hl
  | _, _, .ins g h r => .ins g (e _ _ h) (r.mono e)
  | _, _, .exc g h hd r => .exc g (e _ _ h) (hd.imp id fun ⟨d, q1, q2⟩ => ⟨d, q1, e _ _ q2⟩) (r.mono e)
theorem Dns.mono (e : Same F F') : ∀ {v : List V} {d : List D}, Dns K mg F v d → Dns K mg F' v d
  | _, _, .nil => .nil
  | _, _, .cons h r => .cons (h.mono e) (r.mono e)
theorem Dkv.mono (e : Same F F') : ∀ {v : List (Key × V)} {d : List (DK × D)}, Dkv K mg F v d → Dkv K mg F' v d
  | _, _, .nil => .nil
  | _, _, .cons hk h r => .cons hk (h.mono e) (r.mono e)
theorem Dfs.mono (e : Same F F') : ∀ {v : List (Str × V)} {d : List (String × D)}, Dfs K mg F v d → Dfs K mg F' v d
  | _, _, .nil => .nil
  | _, _, .cons h r => .cons (h.mono e) (r.mono e)
end
theorem Dns.length : ∀ {v : List V} {d : List D}, Dns K mg F v d → v.length = d.length
  | _, _, .nil => rfl
  | _, _, .cons _ r => by simp [r.length]
theorem Dns.get : ∀ {vs : List V} {ds : List D} {i : Nat} {d : D}, Dns K mg F vs ds → ds[i]? = some d → ∃ v, vs[i]? = some v ∧ Dn K mg F v d
  | _, _, _, _, .nil, e => by simp at e
  | _, _, 0, _, .cons h _, e => by simp at e; subst e; exact ⟨_, rfl, h⟩
  | _, _, i + 1, d, .cons _ r, e => by
    obtain ⟨v, h1, h2⟩ := Dns.get (i := i) (d := d) r (by simpa using e)
    exact ⟨v, by simpa using h1, h2⟩
theorem Dns.getV : ∀ {vs : List V} {ds : List D} {i : Nat} {v : V}, Dns K mg F vs ds → vs[i]? = some v → ∃ d, ds[i]? = some d ∧ Dn K mg F v d
  | _, _, _, _, .nil, e => by simp at e
  | _, _, 0, _, .cons h _, e => by simp at e; subst e; exact ⟨_, rfl, h⟩
  | _, _, i + 1, d, .cons _ r, e => by
    obtain ⟨v, h1, h2⟩ := Dns.getV (i := i) (v := d) r (by simpa using e)
    exact ⟨v, by simpa using h1, h2⟩
theorem Dns.append : ∀ {vs ws : List V} {ds es : List D}, Dns K mg F vs ds → Dns K mg F ws es → Dns K mg F (vs ++ ws) (ds ++ es)
  | _, _, _, _, .nil, s => s
  | _, _, _, _, .cons h r, s => .cons h (r.append s)
theorem Dns.take : ∀ {vs : List V} {ds : List D} (n : Nat), Dns K mg F vs ds → Dns K mg F (vs.take n) (ds.take n)
  | _, _, 0, _ => .nil
  | _, _, _ + 1, .nil => .nil
  | _, _, n + 1, .cons h r => .cons h (r.take n)
theorem Dns.drop : ∀ {vs : List V} {ds : List D} (n : Nat), Dns K mg F vs ds → Dns K mg F (vs.drop n) (ds.drop n)
  | _, _, 0, r => r
  | _, _, _ + 1, .nil => .nil
  | _, _, n + 1, .cons h r => r.drop n
theorem Dns.set {v : V} {d : D} (h : Dn K mg F v d) : ∀ {vs : List V} {ds : List D} (n : Nat), Dns K mg F vs ds → Dns K mg F (vs.set n v) (ds.set n d)
  | _, _, _, .nil => .nil
  | _, _, 0, .cons _ r => .cons h r
  | _, _, n + 1, .cons q r => .cons q (r.set h n)
theorem Dns.eraseIdx : ∀ {vs : List V} {ds : List D} (n : Nat), Dns K mg F vs ds → Dns K mg F (vs.eraseIdx n) (ds.eraseIdx n)
  | _, _, _, .nil => .nil
  | _, _, 0, .cons _ r => r
  | _, _, n + 1, .cons q r => .cons q (r.eraseIdx n)
theorem Dns.snoc {vs : List V} {ds : List D} {v : V} {d : D} (r : Dns K mg F vs ds) (h : Dn K mg F v d) : Dns K mg F (vs ++ [v]) (ds ++ [d]) := r.append (.cons h .nil)
end

structure Base where
  P : Program
  w : World
  K : PySem.W.Frag
  mg : Str → Option Value
  base : Heap
  /-- the tables of code objects that may grow -/
  T : List (Addr × Str)
structure Stat extends Base where
  N : List Str
  sc : Scope
  raw : Scope
  k : Nat
  np : Nat
  /-- an exception may be handled while this runs -/
  hot : Bool
  /-- the exception that is in hand -/
  xe : Option (Addr × Obj)
  /-- the def's qualified name and its code object, where that is asked -/
  lam : Option (Str × Addr) := none
  /-- a def's own frame runs -/
  fr : Bool := false
structure Xt where
  T : List (Addr × Str)
  xe : Option (Addr × Obj)
abbrev Stat.xt (c : Stat) : Xt := ⟨c.T, c.xe⟩
/-! ### states -/
structure Xc where
  c : String
  fs : List (String × D)
inductive Sl where
  | un | fz (d : D) | ow (d : D) | xc (x : Xc)
abbrev En := List Sl
/-- an exception: class and fields -/
def XRel (mg : Str → Option Value) (K : PySem.W.Frag) (F : Hp) (cls : Value) (d : Option Addr) (x : Xc) : Prop :=
  ∃ C, mg (Str.ofString x.c) = some (.ref C) ∧ cls = .ref C ∧ ((x.fs = [] ∧ d = none) ∨ ∃ dd vs, d = some dd ∧ F dd = some (.xd vs) ∧ Dfs K mg F vs x.fs)
theorem XRel.mono {mg : Str → Option Value} {K : PySem.W.Frag} {F F' : Hp} {cls : Value} {d : Option Addr} {x : Xc} (e : Same F F') (h : XRel mg K F cls d x) : XRel mg K F' cls d x := by
  obtain ⟨C, h1, h2, h3⟩ := h
  refine ⟨C, h1, h2, ?_⟩
  rcases h3 with h3 | ⟨dd, vs, q1, q2, q3⟩
  · exact .inl h3
  · exact .inr ⟨dd, vs, q1, e _ _ q2, q3.mono e⟩
inductive Out (α : Type) where
  | ok (a : α) (ρ : En) | err (x : Xc) (ρ : En) | bad
abbrev M (α : Type) := En → Out α

structure Ent where
  F0 : Hp
  H0 : Hp
  pa : List (Nat × Addr)

section
variable (K : PySem.W.Frag) (mg : Str → Option Value)
/-- what a mutable thing of its own holds -/
def OwnAt (F H : Hp) (a : Addr) : D → Prop
  | .lst ds => ∃ vs, H a = some (.lst vs) ∧ Dns K mg F vs ds
  | .dct kds => ∃ kvs, H a = some (.dK kvs) ∧ Dkv K mg F kvs kds
  | .ins c fs => ∃ C dx vs, mg (Str.ofString c) = some (.ref C) ∧ H a = some (.ins C dx vs) ∧ Dfs K mg F vs fs
  | _ => False
structure Ow (G : Ent) (F H : Hp) (a : Addr) (d : D) : Prop where
  nf : F a = none
  nh : G.H0 a = none ∨ ∃ p ∈ G.pa, p.2 = a
  at_ : OwnAt K mg F H a d
/-- the tables stand, no frozen thing is one -/
structure TbOk (T : List (Addr × Str)) (F H : Hp) : Prop where
  t : LamX.Tabs T H
  n : ∀ p ∈ T, F p.1 = none
structure Rel (xt : Xt) (G : Ent) (F H : Hp) (σ : L2.St) (ρ : En) : Prop where
  f0 : Same G.F0 F
  fh : Same F H
  kept : ∀ b o, G.H0 b = some o → (∀ ps, o ≠ .tbl ps) → (∀ p ∈ G.pa, p.2 ≠ b) → H b = some o
  par : ∀ p ∈ G.pa, σ[p.1]? = some (some (.ref p.2))
  fz : ∀ (i : Nat) (d : D), ρ[i]? = some (.fz d) → ∃ v, σ[i]? = some (some v) ∧ Dn K mg F v d
  ow : ∀ (i : Nat) (d : D), ρ[i]? = some (.ow d) → ∃ a, σ[i]? = some (some (.ref a)) ∧ Ow K mg G F H a d
  ne : ∀ (i j : Nat) (a : Addr) (d e : D), i ≠ j → ρ[i]? = some (.ow d) → ρ[j]? = some (.ow e) → σ[i]? = some (some (.ref a)) → σ[j]? ≠ some (some (.ref a))
  len : σ.length = ρ.length
  pw : ∀ p ∈ G.pa, ∃ d, ρ[p.1]? = some (.ow d)
  fn : ∀ b, G.H0 b ≠ none → F b = G.F0 b
  tbs : ∀ b ps, G.H0 b = some (.tbl ps) → ∃ qs, H b = some (.tbl qs)
  tb : TbOk xt.T F H
  xc : ∀ (i : Nat) (x : Xc), ρ[i]? = some (.xc x) → ∃ p cls d, xt.xe = some p ∧ σ[i]? = some (some (.ref p.1)) ∧ Zc cls d p.2 ∧ (∃ vs, p.2.data = .fields vs) ∧ XRel mg K F cls d x
/-- no table and no code object stands there -/
structure PlainA (H : Hp) (a : Addr) : Prop where
  t : ∀ ps, H a ≠ some (.tbl ps)
  c : ∀ b q, H a ≠ some (LamX.CodeO b q)
theorem PlainA.none {H : Hp} {a : Addr} (h : H a = .none) : PlainA H a := ⟨(fun ps q => by rw [h] at q; cases q), (fun b x q => by rw [h] at q; cases q)⟩
theorem PlainA.lst {H : Hp} {a : Addr} {l : List V} (h : H a = some (.lst l)) : PlainA H a := ⟨(fun ps q => by rw [h] at q; cases q), (fun b x q => by rw [h] at q; unfold LamX.CodeO at q; cases q)⟩
theorem PlainA.dK {H : Hp} {a : Addr} {l : List (Key × V)} (h : H a = some (.dK l)) : PlainA H a := ⟨(fun ps q => by rw [h] at q; cases q), (fun b x q => by rw [h] at q; unfold LamX.CodeO at q; cases q)⟩
theorem PlainA.ins {H : Hp} {a C dx : Addr} {l : List (Str × V)} (h : H a = some (.ins C dx l)) : PlainA H a := ⟨(fun ps q => by rw [h] at q; cases q), (fun b x q => by rw [h] at q; unfold LamX.CodeO at q; cases q)⟩
theorem tabs_upd {T : List (Addr × Str)} {H : Hp} {a : Addr} {o : HO} (t : LamX.Tabs T H) (p : PlainA H a) : LamX.Tabs T (upd H a o) := fun r hr => by
  obtain ⟨ps, h1, h2, h3⟩ := t r hr
  refine ⟨ps, by rw [upd_ne fun e => p.t ps (by rw [← e]; exact h1)]; exact h1, h2, fun pos cv hc => ?_⟩
  obtain ⟨c, e1, e2⟩ := h3 pos cv hc
  exact ⟨c, e1, by rw [upd_ne fun e => p.c c r.2 (by rw [← e]; exact e2)]; exact e2⟩
theorem TbOk.ne {T : List (Addr × Str)} {F H : Hp} {a : Addr} (k : TbOk T F H) (p : PlainA H a) : ∀ q ∈ T, q.1 ≠ a := fun q hq e => by
  obtain ⟨ps, h1, _⟩ := k.t q hq
  exact p.t ps (by rw [← e]; exact h1)
theorem TbOk.upd {T : List (Addr × Str)} {F H : Hp} {a : Addr} {o : HO} (k : TbOk T F H) (p : PlainA H a) : TbOk T F (upd H a o) := ⟨tabs_upd k.t p, k.n⟩
theorem TbOk.updF {T : List (Addr × Str)} {F H : Hp} {a : Addr} {o : HO} (k : TbOk T F H) (p : PlainA H a) : TbOk T (L2.upd F a o) H := ⟨k.t, fun q hq => by rw [upd_ne (k.ne p q hq)]; exact k.n q hq⟩
/-- new frozen things come beside -/
structure Ext (F H F' H' : Hp) : Prop where
  ff : Same F F'
  fh : Same F' H'
  hh : Same H H'
  nn : ∀ b, H b ≠ none → F' b = F b
end
section
variable {K : PySem.W.Frag} {mg : Str → Option Value} {xt : Xt} {F F' F2 H H' H2 : Hp} {G : Ent} {σ : L2.St} {ρ : En}
theorem Rel.xcSet {σ' : L2.St} {i : Nat} {s : Sl} (R : Rel K mg xt G F H σ ρ) (hs : ∀ x, s ≠ .xc x) (hσ : ∀ j, j ≠ i → σ'[j]? = σ[j]?) : ∀ (j : Nat) (x : Xc), (ρ.set i s)[j]? = some (.xc x) → ∃ p cls d, xt.xe = some p ∧ σ'[j]? = some (some (.ref p.1)) ∧ Zc cls d p.2 ∧ (∃ vs, p.2.data = .fields vs) ∧ XRel mg K F cls d x := fun j x q => by
  by_cases hj : j = i
  · subst hj
    by_cases hl : j < ρ.length
    · rw [List.getElem?_set_self hl] at q
      exact absurd (Option.some.inj q) (hs x)
    · rw [List.getElem?_eq_none (by rw [List.length_set]; omega)] at q; cases q
  · rw [List.getElem?_set_ne (Ne.symm hj)] at q
    rw [hσ j hj]
    exact R.xc j x q
theorem xcMono' {F' : Hp} {xt : Xt} {F : Hp} {σ : L2.St} {ρ : En} (e : Same F F') (h : ∀ (j : Nat) (x : Xc), ρ[j]? = some (.xc x) → ∃ p cls d, xt.xe = some p ∧ σ[j]? = some (some (.ref p.1)) ∧ Zc cls d p.2 ∧ (∃ vs, p.2.data = .fields vs) ∧ XRel mg K F cls d x) :
    ∀ (j : Nat) (x : Xc), ρ[j]? = some (.xc x) → ∃ p cls d, xt.xe = some p ∧ σ[j]? = some (some (.ref p.1)) ∧ Zc cls d p.2 ∧ (∃ vs, p.2.data = .fields vs) ∧ XRel mg K F' cls d x := fun j x q =>
  let ⟨p, cls, d, h1, h2, h3, h4, h5⟩ := h j x q; ⟨p, cls, d, h1, h2, h3, h4, h5.mono e⟩
theorem OwnAt.mono {a : Addr} {d : D} (e : Same F F') (hh : ∀ o, H a = some o → H' a = some o) (h : OwnAt K mg F H a d) : OwnAt K mg F' H' a d := by
  cases d <;> try exact h.elim
  · obtain ⟨vs, h1, h2⟩ := h; exact ⟨vs, hh _ h1, h2.mono e⟩
  · obtain ⟨vs, h1, h2⟩ := h; exact ⟨vs, hh _ h1, h2.mono e⟩
  · obtain ⟨C, dx, vs, g, h1, h2⟩ := h; exact ⟨C, dx, vs, g, hh _ h1, h2.mono e⟩
theorem OwnAt.mono' {a : Addr} {d : D} (e : Same F F') (hh : ∀ o, (∀ ps, o ≠ .tbl ps) → H a = some o → H' a = some o) (h : OwnAt K mg F H a d) : OwnAt K mg F' H' a d := by
  cases d <;> try exact h.elim
  · obtain ⟨vs, h1, h2⟩ := h; exact ⟨vs, hh _ (fun _ q => by cases q) h1, h2.mono e⟩
  · obtain ⟨vs, h1, h2⟩ := h; exact ⟨vs, hh _ (fun _ q => by cases q) h1, h2.mono e⟩
  · obtain ⟨C, dx, vs, g, h1, h2⟩ := h; exact ⟨C, dx, vs, g, hh _ (fun _ q => by cases q) h1, h2.mono e⟩
theorem OwnAt.plain {a : Addr} {d : D} (h : OwnAt K mg F H a d) : PlainA H a := by
  cases d <;> try exact h.elim
  · obtain ⟨vs, h1, h2⟩ := h; exact .lst h1
  · obtain ⟨vs, h1, h2⟩ := h; exact .dK h1
  · obtain ⟨C, dx, vs, g, h1, h2⟩ := h; exact .ins h1
theorem OwnAt.some {a : Addr} {d : D} (h : OwnAt K mg F H a d) : H a ≠ none := by
  cases d <;> try exact h.elim
  · obtain ⟨vs, h1, h2⟩ := h; rw [h1]; exact nofun
  · obtain ⟨vs, h1, h2⟩ := h; rw [h1]; exact nofun
  · obtain ⟨C, dx, vs, g, h1, h2⟩ := h; rw [h1]; exact nofun
theorem TbOk.ext {T : List (Addr × Str)} (k : TbOk T F H) (e : Ext F H F' H') : TbOk T F' H' := ⟨k.t.ext fun b o q => e.hh _ _ q, fun p hp => by
  obtain ⟨ps, h1, _⟩ := k.t p hp
  rw [e.nn p.1 (by rw [h1]; exact nofun)]; exact k.n p hp⟩
theorem Ext.refl (e : Same F H) : Ext F H F H := ⟨Same.refl _, e, Same.refl _, fun _ _ => rfl⟩
theorem Ext.trans (a : Ext F H F' H') (b : Ext F' H' F2 H2) : Ext F H F2 H2 :=
  ⟨a.ff.trans b.ff, b.fh, a.hh.trans b.hh, fun c h => by
    have h' : H' c ≠ none := by
      cases q : H c with
      | none => exact absurd q h
      | some o => rw [a.hh _ _ q]; exact nofun
    rw [b.nn c h', a.nn c h]⟩
theorem Ext.new {p : Addr} {o : HO} (e : Same F H) (hp : H p = none) : Ext F H (upd F p o) (upd H p o) := by
  have fp : F p = none := e.free hp
  refine ⟨fun a u q => ?_, fun a u q => ?_, fun a u q => ?_, fun b h => ?_⟩
  · rw [upd_ne (ne_of_none q fp)]; exact q
  · by_cases ha : a = p
    · subst ha; rw [upd_same] at q ⊢; exact q
    · rw [upd_ne ha] at q ⊢; exact e _ _ q
  · rw [upd_ne (ne_of_none q hp)]; exact q
  · have : b ≠ p := fun z => by subst z; exact h hp
    rw [upd_ne this]
theorem Rel.h0_none (R : Rel K mg xt G F H σ ρ) {a : Addr} (h : H a = none) : G.H0 a = none := by
  cases e : G.H0 a with
  | none => rfl
  | some o =>
    by_cases hp : ∀ p ∈ G.pa, p.2 ≠ a
    · by_cases ht : ∀ ps, o ≠ .tbl ps
      · rw [R.kept a o e ht hp] at h; cases h
      · obtain ⟨ps, hps⟩ := Classical.not_forall.mp ht
        have hps := Classical.not_not.mp hps
        subst hps
        obtain ⟨qs, hq⟩ := R.tbs a ps e
        rw [hq] at h; cases h
    · exfalso
      obtain ⟨p, hp⟩ := Classical.not_forall.mp hp
      obtain ⟨hm, hp⟩ := Classical.not_imp.mp hp
      have hp : p.2 = a := Classical.not_not.mp hp
      subst hp
      obtain ⟨d, q⟩ := R.pw p hm
      obtain ⟨a', h1, h2⟩ := R.ow p.1 d q
      rw [R.par p hm] at h1
      cases h1
      exact h2.at_.some h
theorem Rel.h_some (R : Rel K mg xt G F H σ ρ) {a : Addr} (h : G.H0 a ≠ none) : H a ≠ none := fun e => h (R.h0_none e)
theorem Rel.ext (R : Rel K mg xt G F H σ ρ) (e : Ext F H F' H') : Rel K mg xt G F' H' σ ρ where
  f0 := R.f0.trans e.ff
  fh := e.fh
  kept := fun b o h1 h2 h3 => e.hh _ _ (R.kept b o h1 h2 h3)
  par := R.par
  fz := fun i d h => let ⟨v, h1, h2⟩ := R.fz i d h; ⟨v, h1, h2.mono e.ff⟩
  ow := fun i d h => let ⟨a, h1, h2⟩ := R.ow i d h; ⟨a, h1, ⟨by rw [e.nn _ h2.at_.some]; exact h2.nf, h2.nh, h2.at_.mono e.ff (fun o q => e.hh _ _ q)⟩⟩
  ne := R.ne
  len := R.len
  pw := R.pw
  fn := fun b h => by rw [e.nn b (R.h_some h)]; exact R.fn b h
  tbs := fun b ps h => let ⟨qs, q⟩ := R.tbs b ps h; ⟨qs, e.hh _ _ q⟩
  tb := R.tb.ext e
  xc := fun i x h => let ⟨p, cls, d, h1, h2, h3, h4, h5⟩ := R.xc i x h; ⟨p, cls, d, h1, h2, h3, h4, h5.mono e.ff⟩
end

/-! ### contexts and judgements -/
structure Cz (c : Stat) (X : Cx) (W : WX) : Prop where
  P : X.prog = c.P
  w : X.w = c.w
  K : X.K = c.K
  mg : X.mg = c.mg
  base : X.base = c.base
  N : X.N = c.N
  sc : X.env.scope = c.sc
  nd : c.N.Nodup
  fnc : ∀ y, c.raw.names.lookup y = some .cell → X.fn y = true
  calm : c.hot = false → X.calm = true
  room : L2H.RoomH c.k X.A
  hd : c.hot = false → X.A.handled = none
  xp : ∀ p, c.xe = some p → p ∈ X.pn
  xh : c.hot = false → c.xe = none
  gd : X.A.guards = some []
  lm : ∀ q a, c.lam = some (q, a) → X.env.qual = q ∧ X.env.code = .ref a
  fr : c.fr = true → X.stack = X.env :: X.outer ∧ X.env.frame = some X.env.locals
  tk : Takes X W
  po : PassesOwn (model X.prog X.w) X.A X.env X.xe
theorem _root_.L2H.RoomH.units {k : Nat} {A : Around} (r : L2H.RoomH k A) : A.units + 64 < cLine := by have := r.un; omega
theorem Cz.cold {c : Stat} {X : Cx} {W : WX} (z : Cz c X W) (h : c.hot = false) : Room c.k X.A := ⟨z.hd h, z.room.dp, z.room.un⟩
def Post {α β : Type} (R : Hp → β → α → Prop) (c : Stat) (G : Ent) (W : WX) (F : Hp) (σ : L2.St) (o : Out α) (Q : β → Hp → Prop) : Prop :=
  match o with
  | .ok a ρ' => ∀ b F' H', Same F F' → Rel c.K c.mg c.xt G F' H' σ ρ' → R F' b a → Q b H'
  | .err x ρ' => ∀ F' H' cls d, Same F F' → Rel c.K c.mg c.xt G F' H' σ ρ' → XRel c.mg c.K F' cls d x → W cls d σ H'
  | .bad => False
/-- a reading over data -/
def tG {α β : Type} (R : Hp → β → α → Prop) (c : Stat) (G : Ent) (W : WX) (m : M α) : L2.St → Hp → (β → Hp → Prop) → Prop := fun σ H Q => ∃ F ρ, Rel c.K c.mg c.xt G F H σ ρ ∧ Post R c G W F σ (m ρ) Q
abbrev tD (c : Stat) (G : Ent) (W : WX) (m : M D) : TE := tG (Dn c.K c.mg) c G W m
abbrev tT (c : Stat) (G : Ent) (W : WX) (m : M Bool) : TT := tG (fun _ (b a : Bool) => b = a) c G W m
abbrev tA (c : Stat) (G : Ent) (W : WX) (m : M (List D)) : TA := tG (Dns c.K c.mg) c G W m
abbrev tO (c : Stat) (G : Ent) (W : WX) (m : M (Option Int)) : TO := tG (fun _ (b a : Option Int) => b = a) c G W m
inductive Fl where
  | nx | bk | ct | rt (d : D) | ro (d : D)
def PostS (c : Stat) (G : Ent) (W : WX) (F : Hp) (o : Out Fl) (Z : Ends) : Prop :=
  match o with
  | .ok .nx ρ' => ∀ σ' F' H', Same F F' → Rel c.K c.mg c.xt G F' H' σ' ρ' → Z.nx σ' H'
  | .ok .bk ρ' => ∀ σ' F' H', Same F F' → Rel c.K c.mg c.xt G F' H' σ' ρ' → Z.bk σ' H'
  | .ok .ct ρ' => ∀ σ' F' H', Same F F' → Rel c.K c.mg c.xt G F' H' σ' ρ' → Z.ct σ' H'
  | .ok (.rt d) ρ' => ∀ v σ' F' H', Same F F' → Rel c.K c.mg c.xt G F' H' σ' ρ' → Dn c.K c.mg F' v d → Z.rt v H'
  | .ok (.ro d) ρ' => ∀ a σ' F' H', Same F F' → Rel c.K c.mg c.xt G F' H' σ' ρ' → Ow c.K c.mg G F' H' a d → (∀ (i : Nat) (e : D), ρ'[i]? = some (.ow e) → σ'[i]? ≠ some (some (.ref a))) → Z.rt (.ref a) H'
  | .err x ρ' => ∀ σ' F' H' cls d, Same F F' → Rel c.K c.mg c.xt G F' H' σ' ρ' → XRel c.mg c.K F' cls d x → W cls d σ' H'
  | .bad => False
def tS (c : Stat) (G : Ent) (W : WX) (m : M Fl) : TS := fun Z σ H => ∃ F ρ, Rel c.K c.mg c.xt G F H σ ρ ∧ PostS c G W F (m ρ) Z

def ED (c : Stat) (e : Expr) (m : M D) : Prop := ∀ G X W, Cz c X W → PE X e (tD c G W m)
def ET (c : Stat) (e : Expr) (m : M Bool) : Prop := ∀ G X W, Cz c X W → PT X e (tT c G W m)
def EA (c : Stat) (es : List Expr) (m : M (List D)) : Prop := ∀ G X W, Cz c X W → PA X es (tA c G W m)
def EO (c : Stat) (e : Option Expr) (m : M (Option Int)) : Prop := ∀ G X W, Cz c X W → PO X e (tO c G W m)
def EW (c : Stat) (e : Expr) (m : M Bool) : Prop := ∀ G X W, Cz c X W → PW X e (tT c G W m)
def PaOk (c : Stat) (G : Ent) : Prop := ∀ p ∈ G.pa, p.1 < c.np
def ES (c : Stat) (s : Stmt) (m : M Fl) : Prop := ∀ G X W, PaOk c G → Cz c X W → PS X s (tS c G W m)
def ESs (c : Stat) (ss : List Stmt) (m : M Fl) : Prop := ∀ G X W, PaOk c G → Cz c X W → PSs X ss (tS c G W m)

section
variable {c : Stat} {G : Ent} {W : WX} {σ : L2.St} {F F' H : Hp}
theorem Post.mono {α β : Type} {R : Hp → β → α → Prop} {o : Out α} {Q : β → Hp → Prop} (s : Same F F') (h : Post R c G W F σ o Q) : Post R c G W F' σ o Q := by
  cases o with
  | ok a ρ => exact fun b F2 H2 s2 => h b F2 H2 (s.trans s2)
  | err x ρ => exact fun F2 H2 cls d s2 => h F2 H2 cls d (s.trans s2)
  | bad => exact h
theorem PostS.mono {o : Out Fl} {Z : Ends} (s : Same F F') (h : PostS c G W F o Z) : PostS c G W F' o Z := by
  cases o with
  | ok a ρ =>
    cases a with
    | nx => exact fun σ2 F2 H2 s2 => h σ2 F2 H2 (s.trans s2)
    | bk => exact fun σ2 F2 H2 s2 => h σ2 F2 H2 (s.trans s2)
    | ct => exact fun σ2 F2 H2 s2 => h σ2 F2 H2 (s.trans s2)
    | rt d => exact fun v σ2 F2 H2 s2 => h v σ2 F2 H2 (s.trans s2)
    | ro d => exact fun v σ2 F2 H2 s2 => h v σ2 F2 H2 (s.trans s2)
  | err x ρ => exact fun σ2 F2 H2 cls d s2 => h σ2 F2 H2 cls d (s.trans s2)
  | bad => exact h
end
section
variable {X : Cx} {c : Stat} {G : Ent} {W : WX}
theorem pe_imp {e : Expr} {t t' : TE} (h : PE X e t) (i : ∀ σ H Q, t' σ H Q → t σ H Q) : PE X e t' := ⟨fun pins s σ H Q I q => h.run pins s σ H Q I (i _ _ _ q)⟩
theorem pt_imp {e : Expr} {t t' : TT} (h : PT X e t) (i : ∀ σ H Q, t' σ H Q → t σ H Q) : PT X e t' := ⟨fun pins s σ H Q I q => h.run pins s σ H Q I (i _ _ _ q)⟩
theorem pa_imp {e : List Expr} {t t' : TA} (h : PA X e t) (i : ∀ σ H Q, t' σ H Q → t σ H Q) : PA X e t' := ⟨fun pos pins s σ H Q I q => h.run pos pins s σ H Q I (i _ _ _ q)⟩
theorem po_imp {e : Option Expr} {t t' : TO} (h : PO X e t) (i : ∀ σ H Q, t' σ H Q → t σ H Q) : PO X e t' := ⟨fun pins s σ H Q I q => h.run pins s σ H Q I (i _ _ _ q)⟩
theorem pw_imp {e : Expr} {t t' : TT} (h : PW X e t) (i : ∀ σ H Q, t' σ H Q → t σ H Q) : PW X e t' := ⟨fun wh pins s σ H Q I q => h.run wh pins s σ H Q I (i _ _ _ q)⟩
theorem ps_imp {e : Stmt} {t t' : TS} (h : PS X e t) (i : ∀ D σ H, t' D σ H → t D σ H) : PS X e t' := ⟨fun pins s σ H D I q => h.run pins s σ H D I (i _ _ _ q)⟩
theorem pss_imp {e : List Stmt} {t t' : TS} (h : PSs X e t) (i : ∀ D σ H, t' D σ H → t D σ H) : PSs X e t' := ⟨fun pins s σ H D I q => h.run pins s σ H D I (i _ _ _ q)⟩
end
end DL

namespace DL
open PySem L2

/-! ### the words of the readings -/
def bnd {α β : Type} (m : M α) (f : α → M β) : M β := fun ρ => match m ρ with
  | .ok a ρ' => f a ρ'
  | .err x ρ' => .err x ρ'
  | .bad => .bad
def ret {α : Type} (a : α) : M α := fun ρ => .ok a ρ
def lift {α : Type} (o : Option α) : M α := fun ρ => match o with
  | some a => .ok a ρ
  | none => .bad
def v (i : Nat) : M D := fun ρ => match ρ[i]? with
  | some (.fz d) => .ok d ρ
  | _ => .bad
def cn (d : D) : M D := fun ρ => .ok d ρ
def op1 (r : D → Option D) (a : M D) : M D := bnd a fun x => lift (r x)
def op2 (r : D → D → Option D) (a b : M D) : M D := bnd a fun x => bnd b fun y => lift (r x y)
def args0 : M (List D) := ret []
def argc (a : M D) (r : M (List D)) : M (List D) := bnd a fun x => bnd r fun xs => ret (x :: xs)
def opL (r : List D → Option D) (a : M (List D)) : M D := bnd a fun xs => lift (r xs)
def opM (r : D → List D → Option D) (o : M D) (a : M (List D)) : M D := bnd o fun x => bnd a fun xs => lift (r x xs)

/-! ### how values answer data -/
section
variable (c : Stat)
/-- behind an operation: d at v, new things beside -/
def After (F H : Hp) (d : D) (Q : VK) : Prop := ∀ v F' H', Ext F H F' H' → Dn c.K c.mg F' v d → Q v H'
def R1ok (rV : V → Hp → VK → Prop) (r : D → Option D) : Prop := ∀ F H x dx d Q, Same F H → Dn c.K c.mg F x dx → r dx = some d → After c F H d Q → rV x H Q
def R2ok (rV : R2) (r : D → D → Option D) : Prop := ∀ F H x y dx dy d Q, Same F H → Dn c.K c.mg F x dx → Dn c.K c.mg F y dy → r dx dy = some d → After c F H d Q → rV x y H Q
def RLok (rV : List V → Hp → VK → Prop) (r : List D → Option D) : Prop := ∀ F H xs ds d Q, Same F H → Dns c.K c.mg F xs ds → r ds = some d → After c F H d Q → rV xs H Q
def BOp (op : Operator) (r : D → D → Option D) : Prop := ∀ X W, Cz c X W → ∃ rV, OpR X (binaryOp op) rV ∧ R2ok c rV r
def COp (op : CmpOp) (r : D → D → Option D) : Prop := ∀ X W, Cz c X W → ∃ rV, OpR X (compareOp op) rV ∧ R2ok c rV r
def UOp (op : UnaryOp) (r : D → Option D) : Prop := ∀ X W, Cz c X W → ∃ rV, UnR X (unaryOp op) rV ∧ R1ok c rV r
def BCl (f : Value) (r : List D → Option D) : Prop := ∀ X W, Cz c X W → ∃ rV, CallR X f rV ∧ RLok c rV r
end

section
variable {c : Stat}
theorem After.here {F H : Hp} {d : D} {Q : VK} {x : V} (e : Same F H) (h : After c F H d Q) (r : Dn c.K c.mg F x d) : Q x H := h x F H (Ext.refl e) r
theorem After.new {F H : Hp} {d : D} {Q : VK} {p : Addr} {o : HO} (e : Same F H) (h : After c F H d Q) (hp : H p = none) (r : Dn c.K c.mg (upd F p o) (.ref p) d) : Q (.ref p) (upd H p o) := h _ _ _ (Ext.new e hp) r

section
variable {G : Ent} {W : WX} {σ : L2.St} {H : Hp}
/-- a part, then what is done with its value -/
theorem tG_bind {α β α2 β2 : Type} {R : Hp → β → α → Prop} {R2 : Hp → β2 → α2 → Prop} {m : M α} {f : α → M α2} {k : β → Hp → Prop} {Q : β2 → Hp → Prop} {F : Hp} {ρ : En} (r : Rel c.K c.mg c.xt G F H σ ρ) (h : Post R2 c G W F σ (bnd m f ρ) Q)
    (hk : ∀ F' H1 ρ' b a, Same F F' → Rel c.K c.mg c.xt G F' H1 σ ρ' → R F' b a → Post R2 c G W F' σ (f a ρ') Q → k b H1) : tG R c G W m σ H k := by
  refine ⟨F, ρ, r, ?_⟩
  unfold bnd at h
  cases e : m ρ with
  | bad => rw [e] at h; exact h
  | err x ρ' => rw [e] at h; exact h
  | ok a ρ' =>
    rw [e] at h
    exact fun b F' H' s r' rb => hk F' H' ρ' b a s r' rb (Post.mono s h)
theorem tG_bindS {α β : Type} {R : Hp → β → α → Prop} {m : M α} {f : α → M Fl} {k : β → Hp → Prop} {Z : Ends} {F : Hp} {ρ : En} (r : Rel c.K c.mg c.xt G F H σ ρ) (h : PostS c G W F (bnd m f ρ) Z)
    (hk : ∀ F' H1 ρ' b a, Same F F' → Rel c.K c.mg c.xt G F' H1 σ ρ' → R F' b a → PostS c G W F' (f a ρ') Z → k b H1) : tG R c G W m σ H k := by
  refine ⟨F, ρ, r, ?_⟩
  unfold bnd at h
  cases e : m ρ with
  | bad => rw [e] at h; exact h
  | err x ρ' => rw [e] at h; exact fun F2 H2 cls d s2 r2 x2 => h σ F2 H2 cls d s2 r2 x2
  | ok a ρ' =>
    rw [e] at h
    exact fun b F' H' s r' rb => hk F' H' ρ' b a s r' rb (PostS.mono s h)
/-- the end: an operation gives d -/
theorem Post.lift {F : Hp} {ρ : En} {o : Option D} {Q : VK} (r : Rel c.K c.mg c.xt G F H σ ρ) (h : Post (Dn c.K c.mg) c G W F σ (lift o ρ) Q) : ∃ d, o = some d ∧ After c F H d Q := by
  cases o with
  | none => exact h.elim
  | some d => exact ⟨d, rfl, fun v F' H' ex rv => h v F' H' ex.ff (r.ext ex) rv⟩
end

/-! ### plain expressions -/
theorem ed_const {e : Expr} {d : D} {w : V} (h : ∀ X, PE X e (tC w)) (r : ∀ F, Dn c.K c.mg F w d) : ED c e (cn d) := fun G X W z => pe_imp (h X) fun σ H Q ⟨F, ρ, R, q⟩ => q w F H (Same.refl _) R (r F)
theorem ed_int {i : Int} {j pos} : ED c (.Constant (.int i) j pos) (cn (.int i)) := ed_const (fun _ => pe_int) fun _ => .int i
theorem ed_bl {b : Bool} {j pos} : ED c (.Constant (.bool b) j pos) (cn (.bl b)) := ed_const (fun _ => pe_bl) fun _ => .bl b
theorem ed_non {j pos} : ED c (.Constant .none j pos) (cn .non) := ed_const (fun _ => pe_non) fun _ => .non
theorem ed_str {x : Str} {cs : Cs} {j pos} (e : x = toS cs := by rfl) (h : okS cs := by decide) : ED c (.Constant (.str x) j pos) (cn (.str cs)) := by
  subst e
  exact ed_const (fun _ => pe_str) fun _ => .str cs h
/-- every name of the list is the def's own -/
def NmAll (c : Stat) : Prop := ∀ (i : Nat) (x : Str), c.N[i]? = some x → Vis c.sc x → (x == ("__debug__" : Str)) = false ∧ (x == ("__classdict__" : Str)) = false
theorem ed_var {i : Nat} {x : Str} {pos : Pos} (hN : c.N[i]? = some x) (hv : Vis c.sc x) (hd : (x == ("__debug__" : Str)) = false := by decide) (hcd : (x == ("__classdict__" : Str)) = false := by decide) : ED c (.Name x pos) (v i) := fun G X W z => by
  refine pe_imp (pe_var (i := i) (by rw [z.N]; exact hN) (by rw [z.sc]; exact hv) hd hcd) fun σ H Q ⟨F, ρ, R, q⟩ => ?_
  unfold v at q
  cases e : ρ[i]? with
  | none => rw [e] at q; exact q.elim
  | some s =>
    cases s with
    | un => rw [e] at q; exact q.elim
    | xc d => rw [e] at q; exact q.elim
    | ow d => rw [e] at q; exact q.elim
    | fz d =>
      rw [e] at q
      obtain ⟨v, h1, h2⟩ := R.fz i d e
      exact ⟨v, h1, q v F H (Same.refl _) R h2⟩
theorem ed_op2 {e a b : Expr} {f g : M D} {r : D → D → Option D} (ha : ED c a f) (hb : ED c b g)
    (h : ∀ X W, Cz c X W → ∃ rV, R2ok c rV r ∧ ∀ ta tb, PE X a ta → PE X b tb → PE X e (tOp rV ta tb)) : ED c e (op2 r f g) := fun G X W z => by
  obtain ⟨rV, ok, hp⟩ := h X W z
  refine pe_imp (hp _ _ (ha G X W z) (hb G X W z)) fun σ H Q ⟨F, ρ, R, q⟩ => ?_
  refine tG_bind R q fun F1 H1 ρ1 x dx s1 R1 rx q1 => ?_
  refine tG_bind R1 q1 fun F2 H2 ρ2 y dy s2 R2 ry q2 => ?_
  obtain ⟨d, e, af⟩ := q2.lift R2
  exact ok F2 H2 x y dx dy d Q R2.fh (rx.mono s2) ry e af
theorem ed_op1 {e a : Expr} {f : M D} {r : D → Option D} (ha : ED c a f)
    (h : ∀ X W, Cz c X W → ∃ rV, R1ok c rV r ∧ ∀ ta, PE X a ta → PE X e (tUn rV ta)) : ED c e (op1 r f) := fun G X W z => by
  obtain ⟨rV, ok, hp⟩ := h X W z
  refine pe_imp (hp _ (ha G X W z)) fun σ H Q ⟨F, ρ, R, q⟩ => ?_
  refine tG_bind R q fun F1 H1 ρ1 x dx s1 R1 rx q1 => ?_
  obtain ⟨d, e, af⟩ := q1.lift R1
  exact ok F1 H1 x dx d Q R1.fh rx e af
theorem ed_bin {op : Operator} {r : D → D → Option D} {a b : Expr} {f g : M D} {pos : Pos} (h : BOp c op r) (ha : ED c a f) (hb : ED c b g) : ED c (.BinOp a op b pos) (op2 r f g) :=
  ed_op2 ha hb fun X W z => let ⟨rV, o, k⟩ := h X W z; ⟨rV, k, fun _ _ pa pb => pe_op o pa pb⟩
theorem ed_cmp {op : CmpOp} {r : D → D → Option D} {a b : Expr} {f g : M D} {pos : Pos} (h : COp c op r) (ha : ED c a f) (hb : ED c b g) (hm : behindInMarks op b = false) : ED c (.Compare a [op] [b] pos) (op2 r f g) :=
  ed_op2 ha hb fun X W z => let ⟨rV, o, k⟩ := h X W z; ⟨rV, k, fun _ _ pa pb => pe_cmpR o pa pb hm⟩
theorem ed_un {op : UnaryOp} {r : D → Option D} {a : Expr} {f : M D} {pos : Pos} (h : UOp c op r) (ha : ED c a f) : ED c (.UnaryOp op a pos) (op1 r f) :=
  ed_op1 ha fun X W z => let ⟨rV, o, k⟩ := h X W z; ⟨rV, k, fun _ pa => pe_un o pa⟩

/-! ### arguments, displays -/
theorem ea_nil : EA c [] args0 := fun G X W z => pa_imp pa_nil fun σ H Q ⟨F, ρ, R, q⟩ => q [] F H (Same.refl _) R .nil
theorem ea_cons {e : Expr} {es : List Expr} {f : M D} {g : M (List D)} (ha : ED c e f) (hr : EA c es g) (hs : ∀ env, starEach (e :: es) env = (false, eval e env) :: starEach es env := by intro _; rfl) : EA c (e :: es) (argc f g) := fun G X W z => by
  refine pa_imp (pa_cons (ha G X W z) (hr G X W z) (hs _)) fun σ H Q ⟨F, ρ, R, q⟩ => ?_
  refine tG_bind R q fun F1 H1 ρ1 x dx s1 R1 rx q1 => ?_
  refine tG_bind R1 q1 fun F2 H2 ρ2 xs ds s2 R2 rxs q2 => ?_
  exact q2 (x :: xs) F2 H2 (Same.refl _) R2 (.cons (rx.mono s2) rxs)
theorem ed_opL {e : Expr} {es : List Expr} {f : M (List D)} {r : List D → Option D} (ha : EA c es f)
    (h : ∀ X W, Cz c X W → ∃ rV, RLok c rV r ∧ ∀ ta, PA X es ta → PE X e (tCB rV ta)) : ED c e (opL r f) := fun G X W z => by
  obtain ⟨rV, ok, hp⟩ := h X W z
  refine pe_imp (hp _ (ha G X W z)) fun σ H Q ⟨F, ρ, R, q⟩ => ?_
  refine tG_bind R q fun F1 H1 ρ1 x dx s1 R1 rx q1 => ?_
  obtain ⟨d, e, af⟩ := q1.lift R1
  exact ok F1 H1 x dx d Q R1.fh rx e af
theorem sz_eq : sizeLine = sz := sizeLine_eq
def mkT (xs : List D) : Option D := if xs.length ≤ sz then some (.tup xs) else none
def mkL (xs : List D) : Option D := if xs.length ≤ sz then some (.lst xs) else none
theorem dn_tup {F : Hp} {p : Addr} {vs : List V} {ds : List D} (hp : F p = none) (r : Dns c.K c.mg F vs ds) (hl : ds.length ≤ sz) : Dn c.K c.mg (upd F p (.tup vs)) (.ref p) (.tup ds) :=
  .tup (.inl (.inl upd_same)) (r.mono fun a o e => by rw [upd_ne (ne_of_none e hp)]; exact e) hl
theorem dn_lst {F : Hp} {p : Addr} {vs : List V} {ds : List D} (hp : F p = none) (r : Dns c.K c.mg F vs ds) (hl : ds.length ≤ sz) : Dn c.K c.mg (upd F p (.lst vs)) (.ref p) (.lst ds) :=
  .lst (.inl upd_same) (r.mono fun a o e => by rw [upd_ne (ne_of_none e hp)]; exact e) hl
theorem after_tup {F H : Hp} {p : Addr} {vs : List V} {ds : List D} {Q : VK} (e : Same F H) (h : After c F H (.tup ds) Q) (hp : H p = none) (r : Dns c.K c.mg F vs ds) (hl : ds.length ≤ sz) : Q (.ref p) (upd H p (.tup vs)) := h.new e hp (dn_tup (e.free hp) r hl)
theorem after_lst {F H : Hp} {p : Addr} {vs : List V} {ds : List D} {Q : VK} (e : Same F H) (h : After c F H (.lst ds) Q) (hp : H p = none) (r : Dns c.K c.mg F vs ds) (hl : ds.length ≤ sz) : Q (.ref p) (upd H p (.lst vs)) := h.new e hp (dn_lst (e.free hp) r hl)
theorem ed_tup {es : List Expr} {f : M (List D)} {x1 pos} (ha : EA c es f) : ED c (.Tuple es x1 pos) (opL mkT f) := by
  refine ed_opL ha fun X W z => ⟨fun xs H Q => xs.length ≤ sizeLine ∧ ∀ p, H p = none → Q (.ref p) (upd H p (.tup xs)), ?_, fun ta h => pe_tup h⟩
  intro F H xs ds d Q s r e a
  unfold mkT at e
  split at e
  · rename_i hl
    cases e
    exact ⟨by rw [sz_eq, r.length]; exact hl, fun p hp => after_tup s a hp r hl⟩
  · cases e
theorem ed_lst {es : List Expr} {f : M (List D)} {pos} (ha : EA c es f) : ED c (.List es pos) (opL mkL f) := by
  refine ed_opL ha fun X W z => ⟨fun xs H Q => xs.length ≤ sizeLine ∧ ∀ p, H p = none → Q (.ref p) (upd H p (.lst xs)), ?_, fun ta h => pe_lst h⟩
  intro F H xs ds d Q s r e a
  unfold mkL at e
  split at e
  · rename_i hl
    cases e
    exact ⟨by rw [sz_eq, r.length]; exact hl, fun p hp => after_lst s a hp r hl⟩
  · cases e
/-- a built-in by its name -/
def Gn (c : Stat) (x : Str) : Prop := c.sc.names.lookup x = some .globalImplicit
theorem Gn.gl {X : Cx} {W : WX} {x : Str} (h : Gn c x) (z : Cz c X W) : Gl X x := by
  show X.env.scope.names.lookup x = _
  rw [z.sc]; exact h
theorem ed_callB {id : String} {x : Str} {p pos : Pos} {e : Expr} {es : List Expr} {f : M (List D)} {r : List D → Option D} (h : BCl c (.builtin id) r) (hg : Gn c x) (hm : c.mg x = none) (hv : bootBuiltins x = some (.builtin id)) (ha : EA c (e :: es) f)
    (hn : x ≠ "__name__" := by decide) (hdb : (x == ("__debug__" : Str)) = false := by decide) (he : ∀ env, starEach (e :: es) env = (false, eval e env) :: starEach es env := by intro _; rfl) (hpl : ∀ env, (backTo pos (starEach es env)).any (·.1) = false := by intro _; rfl) :
    ED c (.Call (.Name x p) (e :: es) [] pos) (opL r f) :=
  ed_opL ha fun X W z => let ⟨rV, o, k⟩ := h X W z; ⟨rV, k, fun _ pa => pe_callB o (hg.gl z) (by rw [z.mg]; exact hm) hv pa hn hdb (he _) (hpl _)⟩
theorem ed_callTy {T : String} {x : Str} {p pos : Pos} {e : Expr} {es : List Expr} {f : M (List D)} {r : List D → Option D} (h : BCl c (.type T) r) (hg : Gn c x) (hm : c.mg x = none) (hv : bootBuiltins x = some (.type T)) (ha : EA c (e :: es) f)
    (hn : x ≠ "__name__" := by decide) (hdb : (x == ("__debug__" : Str)) = false := by decide) (he : ∀ env, starEach (e :: es) env = (false, eval e env) :: starEach es env := by intro _; rfl) (hpl : ∀ env, (backTo pos (starEach es env)).any (·.1) = false := by intro _; rfl) :
    ED c (.Call (.Name x p) (e :: es) [] pos) (opL r f) :=
  ed_opL ha fun X W z => let ⟨rV, o, k⟩ := h X W z; ⟨rV, k, fun _ pa => pe_callTy o (hg.gl z) (by rw [z.mg]; exact hm) hv pa hn hdb (he _) (hpl _)⟩
end
end DL

namespace DL
open PySem L2
section
variable {c : Stat}
/-! ### what data is pure, and equality -/
mutual
def isP : D → Bool
  | .non => true | .bl _ => true | .int _ => true | .str _ => true
  | .tup xs => isPs xs | .lst xs => isPs xs
  | .dct _ => false | .ins _ _ => false | .exc _ _ => false | .gl _ => false | .ty _ => false
def isPs : List D → Bool
  | [] => true
  | x :: xs => isP x && isPs xs
end
mutual
def py : D → PyData
  | .non => .none | .bl b => .bool b | .int i => .int i | .str cs => .str (toS cs)
  | .tup xs => .tuple (pys xs) | .lst xs => .list (pys xs)
  | .dct _ => .none | .ins _ _ => .none | .exc _ _ => .none | .gl _ => .none | .ty _ => .none
def pys : List D → List PyData
  | [] => []
  | x :: xs => py x :: pys xs
end
mutual
def dep : D → Nat
  | .tup xs => deps xs + 1 | .lst xs => deps xs + 1
  | .non => 0 | .bl _ => 0 | .int _ => 0 | .str _ => 0
  | .dct _ => 0 | .ins _ _ => 0 | .exc _ _ => 0 | .gl _ => 0 | .ty _ => 0
def deps : List D → Nat
  | [] => 0
  | x :: xs => max (dep x) (deps xs)
end
mutual
def deq : D → D → Bool
  | .non, .non => true
  | .bl a, .bl b => a == b
  | .bl a, .int j => (if a then 1 else 0) == j
  | .int i, .bl b => i == (if b then 1 else 0)
  | .int i, .int j => i == j
  | .str x, .str y => x == y
  | .lst xs, .lst ys => deqs xs ys
  | .tup xs, .tup ys => deqs xs ys
  | _, _ => false
def deqs : List D → List D → Bool
  | [], [] => true
  | x :: xs, y :: ys => deq x y && deqs xs ys
  | _, _ => false
end
mutual
theorem dep_py : ∀ d : D, (py d).depth = dep d
  | .non => by simp [py, dep, PyData.depth] | .bl _ => by simp [py, dep, PyData.depth] | .int _ => by simp [py, dep, PyData.depth] | .str _ => by simp [py, dep, PyData.depth]
  | .tup xs => by simp [py, dep, PyData.depth, deps_pys xs] | .lst xs => by simp [py, dep, PyData.depth, deps_pys xs]
  | .dct _ => by simp [py, dep, PyData.depth] | .ins _ _ => by simp [py, dep, PyData.depth] | .exc _ _ => by simp [py, dep, PyData.depth] | .gl _ => by simp [py, dep, PyData.depth] | .ty _ => by simp [py, dep, PyData.depth]
theorem deps_pys : ∀ d : List D, PyData.depthAll (pys d) = deps d
  | [] => by simp [pys, deps, PyData.depthAll]
  | x :: xs => by simp [pys, deps, PyData.depthAll, dep_py x, deps_pys xs]
end
theorem toS_beq (a b : Cs) : (toS a == toS b) = (a == b) := by
  by_cases h : a = b
  · subst h; simp
  · have : toS a ≠ toS b := fun e => h (toS_inj e)
    rw [beq_eq_false_iff_ne.mpr this, beq_eq_false_iff_ne.mpr h]
mutual
theorem eqv_py : ∀ a b : D, isP a = true → isP b = true → PyData.eqv (py a) (py b) = deq a b
  | .tup xs, .tup ys, h, k => by simp only [py, deq, PyData.eqv]; exact eqvs_py xs ys (by simpa [isP] using h) (by simpa [isP] using k)
  | .lst xs, .lst ys, h, k => by simp only [py, deq, PyData.eqv]; exact eqvs_py xs ys (by simpa [isP] using h) (by simpa [isP] using k)
  | .str x, .str y, _, _ => by simp only [py, deq, PyData.eqv]; exact toS_beq x y
  | .non, b, h, k => by cases b <;> simp_all [py, deq, PyData.eqv, isP]
  | .bl _, b, h, k => by cases b <;> simp_all [py, deq, PyData.eqv, isP]
  | .int _, b, h, k => by cases b <;> simp_all [py, deq, PyData.eqv, isP]
  | .str _, .non, h, k => by simp [py, deq, PyData.eqv]
  | .str _, .bl _, h, k => by simp [py, deq, PyData.eqv]
  | .str _, .int _, h, k => by simp [py, deq, PyData.eqv]
  | .str _, .tup _, h, k => by simp [py, deq, PyData.eqv]
  | .str _, .lst _, h, k => by simp [py, deq, PyData.eqv]
  | .str _, .dct _, h, k => by simp [isP] at k
  | .str _, .ins _ _, h, k => by simp [isP] at k
  | .str _, .exc _ _, h, k => by simp [isP] at k
  | .str _, .gl _, h, k => by simp [isP] at k
  | .str _, .ty _, h, k => by simp [isP] at k
  | .tup _, .non, h, k => by simp [py, deq, PyData.eqv]
  | .tup _, .bl _, h, k => by simp [py, deq, PyData.eqv]
  | .tup _, .int _, h, k => by simp [py, deq, PyData.eqv]
  | .tup _, .str _, h, k => by simp [py, deq, PyData.eqv]
  | .tup _, .lst _, h, k => by simp [py, deq, PyData.eqv]
  | .tup _, .dct _, h, k => by simp [isP] at k
  | .tup _, .ins _ _, h, k => by simp [isP] at k
  | .tup _, .exc _ _, h, k => by simp [isP] at k
  | .tup _, .gl _, h, k => by simp [isP] at k
  | .tup _, .ty _, h, k => by simp [isP] at k
  | .lst _, .non, h, k => by simp [py, deq, PyData.eqv]
  | .lst _, .bl _, h, k => by simp [py, deq, PyData.eqv]
  | .lst _, .int _, h, k => by simp [py, deq, PyData.eqv]
  | .lst _, .str _, h, k => by simp [py, deq, PyData.eqv]
  | .lst _, .tup _, h, k => by simp [py, deq, PyData.eqv]
  | .lst _, .dct _, h, k => by simp [isP] at k
  | .lst _, .ins _ _, h, k => by simp [isP] at k
  | .lst _, .exc _ _, h, k => by simp [isP] at k
  | .lst _, .gl _, h, k => by simp [isP] at k
  | .lst _, .ty _, h, k => by simp [isP] at k
  | .dct _, _, h, _ => by simp [isP] at h
  | .ins _ _, _, h, _ => by simp [isP] at h
  | .exc _ _, _, h, _ => by simp [isP] at h
  | .gl _, _, h, _ => by simp [isP] at h
  | .ty _, _, h, _ => by simp [isP] at h
theorem eqvs_py : ∀ a b : List D, isPs a = true → isPs b = true → PyData.eqvAll (pys a) (pys b) = deqs a b
  | [], [], _, _ => by simp [pys, deqs, PyData.eqvAll]
  | [], _ :: _, _, _ => by simp [pys, deqs, PyData.eqvAll]
  | _ :: _, [], _, _ => by simp [pys, deqs, PyData.eqvAll]
  | x :: xs, y :: ys, h, k => by
    have h' : isP x = true ∧ isPs xs = true := by simpa [isPs] using h
    have k' : isP y = true ∧ isPs ys = true := by simpa [isPs] using k
    simp only [pys, deqs, PyData.eqvAll]
    rw [eqv_py x y h'.1 k'.1, eqvs_py xs ys h'.2 k'.2]
end
mutual
theorem Dn.dp {K : PySem.W.Frag} {mg : Str → Option Value} {F H : Hp} (e : Same F H) : ∀ {v : V} {d : D}, Dn K mg F v d → isP d = true → Dp K H v (py d)
  | _, _, .non, _ => by simp only [py]; exact .non
  | _, _, .bl b, _ => by simp only [py]; exact .bl b
  | _, _, .int i, _ => by simp only [py]; exact .int i
  | _, _, .str cs h, _ => by simp only [py]; exact .str _
  | _, _, .ty n, h => by simp [isP] at h
  | _, _, .gl _, h => by simp [isP] at h
  | _, _, .tup h r _, k => by simp only [py]; exact .tup (same_t e h) (r.dp e (by simpa [isP] using k))
  | _, _, .lst h r _, k => by simp only [py]; exact .lst (.inl (same_rd e h)) (r.dp e (by simpa [isP] using k))
  | _, _, .dct _ _ _, h => by simp [isP] at h
  | _, _, .ins _ _ _, h => by simp [isP] at h
  | _, _, .exc _ _ _ _, h => by simp [isP] at h
theorem Dns.dp {K : PySem.W.Frag} {mg : Str → Option Value} {F H : Hp} (e : Same F H) : ∀ {v : List V} {d : List D}, Dns K mg F v d → isPs d = true → DpAll K H v (pys d)
  | _, _, .nil, _ => by simp only [pys]; exact .nil
  | _, _, .cons h r, k => by
    have k' := k
    simp only [isPs, Bool.and_eq_true] at k'
    simp only [pys]
    exact .cons (h.dp e k'.1) (r.dp e k'.2)
end
theorem okS_strOk {cs : Cs} (h : okS cs) : PyData.strOk (toS cs) = true := by
  unfold PyData.strOk toS
  simp only [List.all_toArray, List.all_eq_true, decide_eq_true_eq]
  exact h.2
mutual
theorem Dn.lay {K : PySem.W.Frag} {mg : Str → Option Value} {F : Hp} : ∀ {v : V} {d : D}, Dn K mg F v d → isP d = true → (py d).canLay0 = true
  | _, _, .non, _ => by simp [py, PyData.canLay0]
  | _, _, .bl b, _ => by simp [py, PyData.canLay0]
  | _, _, .int i, _ => by simp [py, PyData.canLay0]
  | _, _, .str cs h, _ => by simp only [py, PyData.canLay0]; exact okS_strOk h
  | _, _, .ty n, h => by simp [isP] at h
  | _, _, .gl _, h => by simp [isP] at h
  | _, _, .tup h r _, k => by simp only [py, PyData.canLay0]; exact r.lay (by simpa [isP] using k)
  | _, _, .lst h r _, k => by simp only [py, PyData.canLay0]; exact r.lay (by simpa [isP] using k)
  | _, _, .dct _ _ _, h => by simp [isP] at h
  | _, _, .ins _ _ _, h => by simp [isP] at h
  | _, _, .exc _ _ _ _, h => by simp [isP] at h
theorem Dns.lay {K : PySem.W.Frag} {mg : Str → Option Value} {F : Hp} : ∀ {v : List V} {d : List D}, Dns K mg F v d → isPs d = true → PyData.canLayAll0 (pys d) = true
  | _, _, .nil, _ => by simp [pys, PyData.canLayAll0]
  | _, _, .cons h r, k => by
    have k' := k
    simp only [isPs, Bool.and_eq_true] at k'
    simp only [pys, PyData.canLayAll0, h.lay k'.1, r.lay k'.2, Bool.and_self]
end
def dEq (x y : D) : Option D := if isP x && isP y && decide (min (dep x) (dep y) ≤ 64) then some (.bl (deq x y)) else none
def dNe (x y : D) : Option D := if isP x && isP y && decide (min (dep x) (dep y) ≤ 64) then some (.bl (!deq x y)) else none
def rEqM (c : Stat) (b : Bool) : R2 := fun x y H Q => ∃ F dx dy, Same F H ∧ Dn c.K c.mg F x dx ∧ Dn c.K c.mg F y dy ∧ isP dx = true ∧ isP dy = true ∧ min (dep dx) (dep dy) ≤ 64 ∧ Q (.bl (if b then deq dx dy else !deq dx dy)) H
theorem op_eqM {X : Cx} {W : WX} (z : Cz c X W) : OpR X (compareOp .Eq) (rEqM c true) := by
  intro pins s σ H x y v u Q I rx ry ⟨F, dx, dy, e, hx, hy, px, py', hd, q⟩
  have hx' : Dp X.K H x (py dx) := by rw [z.K]; exact hx.dp e px
  have hy' : Dp X.K H y (py dy) := by rw [z.K]; exact hy.dp e py'
  obtain ⟨as, r1⟩ := Dp.reads I _ x v hx' rx
  obtain ⟨bs, r2⟩ := Dp.reads I _ y u hy' ry
  have hu := z.room.units
  refine SeqAt.compareEq_reads r1 r2 (hx.lay px) (hy.lay py') (by rw [dep_py, dep_py]; omega) ⟨.bl _, H, I, rfl, ?_⟩
  rw [eqv_py _ _ px py']
  exact q
theorem op_neM {X : Cx} {W : WX} (z : Cz c X W) : OpR X (compareOp .NotEq) (rEqM c false) := by
  intro pins s σ H x y v u Q I rx ry ⟨F, dx, dy, e, hx, hy, px, py', hd, q⟩
  have hx' : Dp X.K H x (py dx) := by rw [z.K]; exact hx.dp e px
  have hy' : Dp X.K H y (py dy) := by rw [z.K]; exact hy.dp e py'
  obtain ⟨as, r1⟩ := Dp.reads I _ x v hx' rx
  obtain ⟨bs, r2⟩ := Dp.reads I _ y u hy' ry
  have hu := z.room.units
  refine SeqAt.compareNe_reads r1 r2 (hx.lay px) (hy.lay py') (by rw [dep_py, dep_py]; omega) ⟨.bl _, H, I, rfl, ?_⟩
  rw [eqv_py _ _ px py']
  exact q
theorem c_eq : COp c .Eq dEq := fun X W z => ⟨_, op_eqM z, fun F H x y dx dy d Q e hx hy h a => by
  unfold dEq at h
  split at h
  · rename_i k
    simp only [Bool.and_eq_true, decide_eq_true_eq] at k
    cases h
    exact ⟨F, dx, dy, e, hx, hy, k.1.1, k.1.2, k.2, a.here e (.bl _)⟩
  · cases h⟩
theorem c_ne : COp c .NotEq dNe := fun X W z => ⟨_, op_neM z, fun F H x y dx dy d Q e hx hy h a => by
  unfold dNe at h
  split at h
  · rename_i k
    simp only [Bool.and_eq_true, decide_eq_true_eq] at k
    cases h
    exact ⟨F, dx, dy, e, hx, hy, k.1.1, k.1.2, k.2, a.here e (.bl _)⟩
  · cases h⟩

/-! ### numbers, texts -/
def dSub : D → D → Option D
  | .int i, .int j => some (.int (i - j))
  | _, _ => none
def dMod : D → D → Option D
  | .int i, .int j => if 0 < j then some (.int (i % j)) else none
  | _, _ => none
def dFdv : D → D → Option D
  | .int i, .int j => if 0 < j ∧ j.natAbs.log2 < 9000 then some (.int (i / j)) else none
  | _, _ => none
def dPow : D → D → Option D
  | .int i, .int j => if 0 ≤ j ∧ j ≤ 1000000 ∧ i.natAbs < 2 ^ 64 then some (.int (i ^ j.toNat)) else none
  | _, _ => none
theorem r2_int {C : Int → Int → Prop} [∀ i j, Decidable (C i j)] {g : Int → Int → D} {gV : Int → Int → V} {r : D → D → Option D} (hr : ∀ x y d, r x y = some d → ∃ i j, x = .int i ∧ y = .int j ∧ C i j ∧ d = g i j) (hg : ∀ F i j, Dn c.K c.mg F (gV i j) (g i j)) : R2ok c (rI C gV) r := by
  intro F H x y dx dy d Q e hx hy h a
  obtain ⟨i, j, rfl, rfl, hc, rfl⟩ := hr _ _ _ h
  cases hx; cases hy
  exact ⟨i, j, rfl, rfl, hc, a.here e (hg F i j)⟩
theorem b_mod : BOp c .Mod dMod := fun X W z => ⟨_, op_mod, r2_int (g := fun i j => .int (i % j)) (fun x y d h => by
  cases x <;> cases y <;> simp [dMod] at h
  exact ⟨_, _, rfl, rfl, h.1, h.2.symm⟩) fun F i j => .int _⟩
theorem b_fdv : BOp c .FloorDiv dFdv := fun X W z => ⟨_, op_fdivW, fun F H x y dx dy d Q e hx hy h a => by
  cases dx <;> cases dy <;> simp [dFdv] at h
  cases hx; cases hy
  obtain ⟨⟨h1, h2⟩, rfl⟩ := h
  exact ⟨_, _, rfl, rfl, ⟨h1, h2⟩, a.here e (.int _)⟩⟩
theorem b_pow : BOp c .Pow dPow := fun X W z => ⟨_, op_pow, fun F H x y dx dy d Q e hx hy h a => by
  cases dx <;> cases dy <;> simp only [dPow] at h <;> try cases h
  split at h
  · rename_i k
    cases hx; cases hy; cases h
    exact ⟨_, _, rfl, rfl, ⟨k.1, k.2.1, k.2.2⟩, a.here e (.int _)⟩
  · cases h⟩
def dNeg : D → Option D
  | .int i => some (.int (-i))
  | _ => none
theorem u_neg : UOp c .USub dNeg := fun X W z => ⟨_, un_neg, fun F H x dx d Q e hx h a => by
  cases dx <;> simp [dNeg] at h
  cases hx
  subst h
  exact ⟨_, rfl, a.here e (.int _)⟩⟩
def dLt : D → D → Option D
  | .int i, .int j => some (.bl (decide (i < j)))
  | .str a, .str b => some (.bl (decide (a < b)))
  | _, _ => none
def dLe : D → D → Option D
  | .int i, .int j => some (.bl (decide (i ≤ j)))
  | .str a, .str b => some (.bl (!decide (b < a)))
  | _, _ => none
def dGt : D → D → Option D
  | .int i, .int j => some (.bl (decide (j < i)))
  | .str a, .str b => some (.bl (decide (b < a)))
  | _, _ => none
def dGe : D → D → Option D
  | .int i, .int j => some (.bl (decide (j ≤ i)))
  | .str a, .str b => some (.bl (!decide (a < b)))
  | _, _ => none
theorem c_ord {op : CmpOp} {r : D → D → Option D} {p : Int → Int → Bool} {q : Cs → Cs → Bool} (hr : ∀ x y d, r x y = some d → (∃ i j, x = .int i ∧ y = .int j ∧ d = .bl (p i j)) ∨ ∃ a b, x = .str a ∧ y = .str b ∧ d = .bl (q a b))
    (h1 : ∀ X, OpR X (compareOp op) (rI0 fun i j => .bl (p i j))) (h2 : ∀ X, OpR X (compareOp op) (fun x y H Q => ∃ i j, x = .str i ∧ y = .str j ∧ Q (.bl (q i.cps.toList j.cps.toList)) H)) : COp c op r := fun X W z => ⟨_, OpR.or (h1 X) (h2 X), fun F H x y dx dy d Q e hx hy h a => by
  rcases hr _ _ _ h with ⟨i, j, rfl, rfl, rfl⟩ | ⟨a', b', rfl, rfl, rfl⟩
  · cases hx; cases hy
    exact .inl ⟨i, j, rfl, rfl, a.here e (.bl _)⟩
  · cases hx; cases hy
    exact .inr ⟨_, _, rfl, rfl, by rw [toS_cps, toS_cps]; exact a.here e (.bl _)⟩⟩
theorem c_lt : COp c .Lt dLt := c_ord (p := fun i j => decide (i < j)) (q := fun a b => decide (a < b)) (fun x y d h => by
  cases x <;> cases y <;> simp [dLt] at h
  · exact .inl ⟨_, _, rfl, rfl, h.symm⟩
  · exact .inr ⟨_, _, rfl, rfl, h.symm⟩) (fun _ => op_lt) fun _ => op_lt_str
theorem c_gt : COp c .Gt dGt := c_ord (p := fun i j => decide (j < i)) (q := fun a b => decide (b < a)) (fun x y d h => by
  cases x <;> cases y <;> simp only [dGt] at h <;> try cases h
  · exact .inl ⟨_, _, rfl, rfl, rfl⟩
  · exact .inr ⟨_, _, rfl, rfl, rfl⟩) (fun _ => op_gt) fun _ => op_gt_str
theorem c_ge : COp c .GtE dGe := c_ord (p := fun i j => decide (j ≤ i)) (q := fun a b => !decide (a < b)) (fun x y d h => by
  cases x <;> cases y <;> simp only [dGe] at h <;> try cases h
  · exact .inl ⟨_, _, rfl, rfl, rfl⟩
  · exact .inr ⟨_, _, rfl, rfl, rfl⟩) (fun _ => op_ge) fun _ => op_ge_str
def isNon : D → Bool
  | .non => true
  | _ => false
def dIs : D → D → Option D
  | x, .non => some (.bl (isNon x))
  | _, _ => none
def dIsNot : D → D → Option D
  | x, .non => some (.bl (!isNon x))
  | _, _ => none
end
end DL

namespace DL
open PySem L2
section
variable {c : Stat}
/-! ### + and * -/
def dAdd : D → D → Option D
  | .int i, .int j => some (.int (i + j))
  | .str a, .str b => if a.length + b.length ≤ sz then some (.str (a ++ b)) else none
  | .lst a, .lst b => if a.length + b.length ≤ sz then some (.lst (a ++ b)) else none
  | .tup a, .tup b => if a.length + b.length ≤ sz then some (.tup (a ++ b)) else none
  | _, _ => none
def rCatR : R2 := fun x y H Q => ∃ l b xs zs, x = .ref l ∧ y = .ref b ∧ Rd H l (.lst xs) ∧ Rd H b (.lst zs) ∧ xs.length + zs.length ≤ sizeLine ∧ ∀ p, H p = none → Q (.ref p) (upd H p (.lst (xs ++ zs)))
theorem op_catR {X : Cx} : OpR X (binaryOp .Add) rCatR := by
  intro pins s σ H x y v u Q I rx ry h
  obtain ⟨l, b, xs, zs, rfl, rfl, hH, hB, hz, q⟩ := h
  cases rx
  cases ry
  obtain ⟨z, its, n, r, e⟩ := hH.ok I.hok
  obtain ⟨z2, its2, n2, r2, e2⟩ := hB.ok I.hok
  have hl := r.length
  have hl2 := r2.length
  refine PySem.P.add_list e e2 ?_ (by rw [List.size_toArray, List.size_toArray]; omega)
  have ea : its.toArray ++ its2.toArray = (its ++ its2).toArray := by simp
  rw [ea]
  exact ⟨.ref _, _, I.lnew (t' := s.toks) (r.append r2) (by rw [List.length_append]; omega), rfl, q _ I.fresh⟩
theorem toS_append (a b : Cs) : toS a ++ toS b = toS (a ++ b) := by
  show Str.append _ _ = _
  simp [toS, Str.append]
theorem okS_append {a b : Cs} (ha : okS a) (hb : okS b) (h : a.length + b.length ≤ sz) : okS (a ++ b) := by
  refine ⟨by rw [List.length_append]; exact h, fun x hx => ?_⟩
  rcases List.mem_append.mp hx with h | h
  · exact ha.2 x h
  · exact hb.2 x h
theorem b_add : BOp c .Add dAdd := fun X W z => ⟨_, OpR.or op_add (OpR.or op_add_str (OpR.or op_catR op_catA)), fun F H x y dx dy d Q e hx hy h a => by
  cases dx <;> cases dy <;> simp only [dAdd] at h <;> try cases h
  · cases hx; cases hy
    exact .inl ⟨_, _, rfl, rfl, a.here e (.int _)⟩
  · split at h <;> cases h
    rename_i k
    cases hx with
    | str cs h1 =>
      cases hy with
      | str cs2 h2 =>
      refine .inr (.inl ⟨_, _, rfl, rfl, by rw [toS_length, toS_length, sz_eq]; exact k, ?_⟩)
      rw [toS_append]
      exact a.here e (.str _ (okS_append h1 h2 k))
  · split at h <;> cases h
    rename_i k
    cases hx with
    | tup h1 r1 l1 =>
      cases hy with
      | tup h2 r2 l2 =>
      refine .inr (.inr (.inr ⟨_, _, _, _, rfl, rfl, by rw [z.K]; exact same_t e h1, by rw [z.K]; exact same_t e h2, by rw [sz_eq, r1.length, r2.length]; exact k, ?_, ?_, ?_⟩))
      · rintro rfl
        cases r1
        exact a.here e (.tup h2 (by simpa using r2) (by simpa using l2))
      · rintro _ rfl
        cases r2
        exact a.here e (.tup h1 (by simpa using r1) (by simpa using l1))
      · intro _ _ p hp
        exact after_tup e a hp (r1.append r2) (by rw [List.length_append]; exact k)
  · split at h <;> cases h
    rename_i k
    cases hx with
    | lst h1 r1 l1 =>
      cases hy with
      | lst h2 r2 l2 =>
      exact .inr (.inr (.inl ⟨_, _, _, _, rfl, rfl, same_rd e h1, same_rd e h2, by rw [sz_eq, r1.length, r2.length]; exact k, fun p hp => after_lst e a hp (r1.append r2) (by rw [List.length_append]; exact k)⟩))⟩
def rRepR : R2 := fun x y H Q => ∃ l k xs, x = .ref l ∧ y = .int k ∧ Rd H l (.lst xs) ∧ -(2 ^ 63) ≤ k ∧ k < 2 ^ 63 ∧ xs.length * k.toNat ≤ sizeLine ∧
  ∀ p, H p = none → Q (.ref p) (upd H p (.lst (List.replicate k.toNat xs).flatten))
theorem op_repR {X : Cx} : OpR X (binaryOp .Mult) rRepR := by
  intro pins s σ H x y v u Q I rx ry h
  obtain ⟨l, k, xs, rfl, rfl, hH, h1, h2, hz, q⟩ := h
  cases rx
  obtain ⟨t, rfl⟩ := ry
  obtain ⟨z, its, n, r, e⟩ := hH.ok I.hok
  have hl := r.length
  have hlen : its.toArray.size * k.toNat ≤ sizeLine := by rw [List.size_toArray, ← hl]; exact hz
  have hcap : ¬ its.toArray.size * k.toNat > (2 ^ 63 - 1) / 8 := by
    have : (sizeLine : Nat) ≤ (2 ^ 63 - 1) / 8 := by decide
    omega
  have hfit : ¬ (!Builtin.List.listFitsIndex k) = true := by
    rw [fitsIndex_both h1 h2]
    exact Bool.false_ne_true
  have hlong : ¬ Builtin.List.listTooLong (its.toArray.size * k.toNat) = true := by
    rw [notLongL hlen]
    exact Bool.false_ne_true
  have hnew : List.foldl (fun x1 x2 => x1 ++ x2) #[] (List.replicate (if its.toArray.isEmpty = true then 0 else k.toNat) its.toArray) = (List.replicate k.toNat its).flatten.toArray := by
    have f0 : ∀ m : Nat, List.foldl (fun x1 x2 => x1 ++ x2) #[] (List.replicate m its.toArray) = (List.replicate m its).flatten.toArray := fun m => by
      have := foldl_rep its m []
      rw [List.nil_append] at this
      exact this
    rw [f0]
    cases its with
    | nil => simp
    | cons a r' => rw [if_neg (by simp)]
  refine wpAny_binaryOp_repeat_ref (T := "list") (U := "int") (by decide) ⟨_, e, rfl⟩ (fun s' => typeIs_int s' k t) noFill_list_mul F.fills_int_mul F.slot_int_rmul repeat_list F.slot_int_index.lookup
    (call_meets F.slot_int_rmul (typeIs_int s k t) F.entry_int_rmul (F.args_int_rmul_2 _ _) (int___rmul___int_list k t l its.toArray n)
      ⟨e, rfl, ⟨_, e, rfl⟩, call_meets F.slot_list_mul ⟨_, e, rfl⟩ F.entry_list_mul (F.args_list_mul_2 _ _) (AutoListH.list___mul___list_int_3 l its.toArray n k t hfit hcap hlong) ⟨e, ?_⟩⟩)
  rw [hnew]
  exact ⟨.ref _, _, I.lnew (t' := s.toks) (r.rep k.toNat) (by rw [PyProof.Rows.lm_len_rep_flat, Nat.mul_comm]; exact hz), rfl, q _ I.fresh⟩
theorem Dns.rep {K : PySem.W.Frag} {mg : Str → Option Value} {F : Hp} {vs : List V} {ds : List D} (h : Dns K mg F vs ds) : ∀ n : Nat, Dns K mg F (List.replicate n vs).flatten (List.replicate n ds).flatten
  | 0 => .nil
  | n + 1 => by
    rw [List.replicate_succ, List.replicate_succ, List.flatten_cons, List.flatten_cons]
    exact h.append (h.rep n)
theorem rep_len {k : Int} {xs : List D} (h : k ≤ 1000) (hx : xs.length ≤ 1000) : (List.replicate k.toNat xs).flatten.length ≤ sz := by
  rw [PyProof.Rows.lm_len_rep_flat]
  have a1 : k.toNat * xs.length ≤ 1000 * 1000 := Nat.mul_le_mul (by omega) hx
  show _ ≤ 16777216
  omega
/-- * of two factors of together less than a hundred million bits -/
def CMulY (i j : Int) : Prop := i.natAbs.log2 + j.natAbs.log2 < 100000000
theorem CMulY.ok {i j : Int} (h : CMulY i j) : IntMulOk i j := fun z => by
  have bit : ∀ y : Int, Builtin.Int.intBits y ≤ y.natAbs.log2 + 1 := by
    intro y; unfold Builtin.Int.intBits; split <;> omega
  have e1 := bit i
  have e2 := bit j
  have e3 : bitsLine = 134217728 := by decide
  have e4 := of_decide_eq_true (show decide _ = true from (Bool.and_eq_true_iff.mp z).2)
  unfold CMulY at h
  rw [e3] at e4
  omega
theorem op_mulY {X : Cx} : OpR X (binaryOp .Mult) (rI CMulY fun i j => .int (i * j)) := opI fun _ _ _ _ _ _ _ hc q => PyProof.Rows.mul_int q hc.ok
def dMul : D → D → Option D
  | .int i, .int j => if i.natAbs < 2 ^ 64 ∨ j.natAbs < 2 ^ 64 ∨ i.natAbs.log2 + j.natAbs.log2 < 100000000 then some (.int (i * j)) else none
  | .lst xs, .int k => if -1000000 ≤ k ∧ k ≤ 1000000 ∧ xs.length * k.toNat ≤ sz then some (.lst (List.replicate k.toNat xs).flatten) else none
  | .tup xs, .int k => if xs ≠ [] ∧ 2 ≤ k ∧ k ≤ 1000 ∧ xs.length ≤ 1000 then some (.tup (List.replicate k.toNat xs).flatten) else none
  | _, _ => none
theorem b_mul : BOp c .Mult dMul := fun X W z => ⟨_, OpR.or op_mul (OpR.or op_mulY (OpR.or op_repR op_repT)), fun F H x y dx dy d Q e hx hy h a => by
  cases dx <;> cases dy <;> simp only [dMul] at h <;> try cases h
  · split at h <;> cases h
    rename_i k
    cases hx; cases hy
    rcases k with k | k | k
    · exact .inl ⟨_, _, rfl, rfl, .inl ⟨by omega, by omega⟩, a.here e (.int _)⟩
    · exact .inl ⟨_, _, rfl, rfl, .inr ⟨by omega, by omega⟩, a.here e (.int _)⟩
    · exact .inr (.inl ⟨_, _, rfl, rfl, k, a.here e (.int _)⟩)
  · split at h <;> cases h
    rename_i k
    cases hx with
    | tup h1 r1 l1 =>
      cases hy
      exact .inr (.inr (.inr ⟨_, _, _, rfl, rfl, by rw [z.K]; exact same_t e h1, fun q => k.1 (by subst q; cases r1; rfl), k.2.1, k.2.2.1, by rw [r1.length]; exact k.2.2.2, fun p hp => after_tup e a hp (r1.rep _) (rep_len k.2.2.1 k.2.2.2)⟩))
  · split at h <;> cases h
    rename_i k
    cases hx with
    | lst h1 r1 l1 =>
      cases hy
      exact .inr (.inr (.inl ⟨_, _, _, rfl, rfl, same_rd e h1, by omega, by omega, by rw [sz_eq, r1.length]; exact k.2.2, fun p hp => after_lst e a hp (r1.rep _) (by rw [PyProof.Rows.lm_len_rep_flat, Nat.mul_comm]; exact k.2.2)⟩))⟩
/-! ### in -/
def lookK (k : DK) : List (DK × D) → Option D
  | [] => none
  | (j, d) :: r => if j = k then some d else lookK k r
def asK : D → Option DK
  | .int i => some (.i i)
  | .str cs => some (.s cs)
  | _ => none
def inB (x y : D) : Option Bool := match y with
  | .str b => (match x with
    | .str [n] => some (decide (n ∈ b))
    | .str a => some (!(Builtin.Str.occurrences (toS b) (toS a) 0 b.length 1).isEmpty)
    | _ => none)
  | .lst ys => if isP x && isPs ys && decide (min (dep x) (deps ys) ≤ 60) then some (ys.any fun y => deq y x) else none
  | .tup ys => if isP x && isPs ys && decide (min (dep x) (deps ys) ≤ 60) then some (ys.any fun y => deq y x) else none
  | .dct kvs => (asK x).map fun k => (lookK k kvs).isSome
  | _ => none
def dIn (x y : D) : Option D := (inB x y).map .bl
def dNotIn (x y : D) : Option D := (inB x y).map fun b => .bl (!b)
theorem any_pys {x : D} (hx : isP x = true) : ∀ ys : List D, isPs ys = true → ((pys ys).any fun y => PyData.eqv y (py x)) = ys.any fun y => deq y x
  | [], _ => by simp [pys]
  | y :: ys, h => by
    have h' : isP y = true ∧ isPs ys = true := by simpa [isPs] using h
    simp only [pys, List.any_cons]
    rw [eqv_py y x h'.1 hx, any_pys hx ys h'.2]
def rInM (c : Stat) (neg : Bool) : R2 := fun x y H Q => ∃ F dx ys, Same F H ∧ Dn c.K c.mg F x dx ∧ (Dn c.K c.mg F y (.lst ys) ∨ Dn c.K c.mg F y (.tup ys)) ∧ isP dx = true ∧ isPs ys = true ∧ min (dep dx) (deps ys) ≤ 60 ∧
  Q (.bl (if neg then !(ys.any fun y => deq y dx) else ys.any fun y => deq y dx)) H
theorem op_inM {X : Cx} {W : WX} (z : Cz c X W) : OpR X (compareOp .In) (rInM c false) := by
  intro pins s σ H x y v u Q I rx ry ⟨F, dx, ys, e, hx, hy, px, py', hd, q⟩
  have hx' : Dp X.K H x (py dx) := by rw [z.K]; exact hx.dp e px
  obtain ⟨as, r1⟩ := Dp.reads I _ x v hx' rx
  have hu := z.room.units
  rcases hy with hy | hy
  · have hy' : Dp X.K H y (py (.lst ys)) := by rw [z.K]; exact hy.dp e (by simpa [isP] using py')
    obtain ⟨bs, r2⟩ := Dp.reads I _ y u hy' ry
    have hl := hy.lay (by simpa [isP] using py')
    simp only [py] at r2 hl
    refine SeqAt.in_list_reads r2 r1 (by simpa only [PyData.canLay0] using hl) (hx.lay px) (by rw [dep_py, deps_pys]; omega) ⟨.bl _, H, I, rfl, ?_⟩
    rw [any_pys px ys py']
    exact q
  · have hy' : Dp X.K H y (py (.tup ys)) := by rw [z.K]; exact hy.dp e (by simpa [isP] using py')
    obtain ⟨bs, r2⟩ := Dp.reads I _ y u hy' ry
    have hl := hy.lay (by simpa [isP] using py')
    simp only [py] at r2 hl
    refine SeqAt.in_tuple_reads r2 r1 (by simpa only [PyData.canLay0] using hl) (hx.lay px) (by rw [dep_py, deps_pys]; omega) ⟨.bl _, H, I, rfl, ?_⟩
    rw [any_pys px ys py']
    exact q
theorem op_notInM {X : Cx} {W : WX} (z : Cz c X W) : OpR X (compareOp .NotIn) (rInM c true) := by
  intro pins s σ H x y v u Q I rx ry ⟨F, dx, ys, e, hx, hy, px, py', hd, q⟩
  have hx' : Dp X.K H x (py dx) := by rw [z.K]; exact hx.dp e px
  obtain ⟨as, r1⟩ := Dp.reads I _ x v hx' rx
  have hu := z.room.units
  rcases hy with hy | hy
  · have hy' : Dp X.K H y (py (.lst ys)) := by rw [z.K]; exact hy.dp e (by simpa [isP] using py')
    obtain ⟨bs, r2⟩ := Dp.reads I _ y u hy' ry
    have hl := hy.lay (by simpa [isP] using py')
    simp only [py] at r2 hl
    refine SeqAt.notIn_list_reads r2 r1 (by simpa only [PyData.canLay0] using hl) (hx.lay px) (by rw [dep_py, deps_pys]; omega) ⟨.bl _, H, I, rfl, ?_⟩
    rw [any_pys px ys py']
    exact q
  · have hy' : Dp X.K H y (py (.tup ys)) := by rw [z.K]; exact hy.dp e (by simpa [isP] using py')
    obtain ⟨bs, r2⟩ := Dp.reads I _ y u hy' ry
    have hl := hy.lay (by simpa [isP] using py')
    simp only [py] at r2 hl
    refine SeqAt.notIn_tuple_reads r2 r1 (by simpa only [PyData.canLay0] using hl) (hx.lay px) (by rw [dep_py, deps_pys]; omega) ⟨.bl _, H, I, rfl, ?_⟩
    rw [any_pys px ys py']
    exact q
def rInDk (neg : Bool) : R2 := fun x y H Q => ∃ a o, y = .ref a ∧ DGet H a x o ∧ Q (.bl (if neg then !o.isSome else o.isSome)) H
theorem op_inDk {X : Cx} {W : WX} (z : Cz c X W) : OpR X (compareOp .In) (rInDk false) := by
  intro pins s σ H x y v u Q I rx ry ⟨a, o, ey, g, q⟩
  subst ey
  obtain rfl : u = Value.ref a := ry
  have hu := z.room.units
  exact d_in (by omega) I g rx fun s' I' => ⟨.bl _, H, I', rfl, q⟩
theorem op_notInDk {X : Cx} {W : WX} (z : Cz c X W) : OpR X (compareOp .NotIn) (rInDk true) := by
  intro pins s σ H x y v u Q I rx ry ⟨a, o, ey, g, q⟩
  subst ey
  obtain rfl : u = Value.ref a := ry
  have hu := z.room.units
  exact d_notIn (by omega) I g rx fun s' I' => ⟨.bl _, H, I', rfl, q⟩
theorem dkv_look {K : PySem.W.Frag} {mg : Str → Option Value} {F : Hp} (k : DK) : ∀ {kvs : List (Key × V)} {kds : List (DK × D)}, Dkv K mg F kvs kds → (lookK k kds = none ∧ valV kvs k.key = none) ∨ ∃ d v, lookK k kds = some d ∧ valV kvs k.key = some v ∧ Dn K mg F v d
  | _, _, .nil => .inl ⟨rfl, rfl⟩
  | _, _, @Dkv.cons _ _ _ j v d vs ds _ h r => by
    by_cases e : j = k
    · subst e
      refine .inr ⟨d, v, by simp [lookK], ?_, h⟩
      simp [valV]
    · have e' : j.key ≠ k.key := fun q => e (key_inj q)
      rcases dkv_look k r with ⟨h1, h2⟩ | ⟨d2, v2, h1, h2, h3⟩
      · refine .inl ⟨by simp [lookK, e, h1], ?_⟩
        simpa [valV, e'] using h2
      · refine .inr ⟨d2, v2, by simp [lookK, e, h1], ?_, h3⟩
        simpa [valV, e'] using h2
theorem asK_ok {K : PySem.W.Frag} {mg : Str → Option Value} {F : Hp} {x : V} {d : D} {k : DK} (h : Dn K mg F x d) (e : asK d = some k) : okK k := by
  cases h <;> simp [asK] at e <;> subst e
  · exact trivial
  · rename_i h1; exact h1
theorem asK_V {K : PySem.W.Frag} {mg : Str → Option Value} {F : Hp} {x : V} {d : D} {k : DK} (h : Dn K mg F x d) (e : asK d = some k) : x = kV k.key := by
  cases h <;> simp [asK] at e <;> subst e <;> rfl
end
end DL

namespace DL
open PySem L2
section
variable {c : Stat}
/-! ### items and slices -/
theorem ix_dict {X : Cx} (hu : X.A.units + 1 < cLine) : IxR X (fun x y H Q => ∃ a v, x = .ref a ∧ DGet H a y (some v) ∧ Q v H) := by
  intro value slice pins s σ H x y v u Q I rx ry h hs
  obtain ⟨a, w, ex, g, q⟩ := h
  subst ex
  obtain rfl : v = Value.ref a := rx
  have hT := dict_typeIs I g
  unfold PyProof.Rows.subscriptTail
  refine wpAny_bind ?_
  rw [getitemInPython_of_ne hT.not_modules]
  refine wpAny_bind (wpAny_specialOf hT PySem.F.slot_dict_getitem.lookup ?_)
  have fin : wpAny (model X.prog X.w) X.A (subscripted slice false (.ref a) u) (fun r s₃ => wpAny (model X.prog X.w) X.A (letTemporaryGo value (.ref a) r >>= fun _ => pure r) (EP X pins σ Q) X.xe s₃) X.xe s := by
    rw [hs]
    exact wpAny_operating (wpAny_mono (d_getItem hu I g ry fun w' s3 I3 rw' => (⟨w, H, I3, rw', q⟩ : EP X pins σ Q w' s3)) (fun r s₃ h₃ => wpAny_bind (wpAny_letTemporaryGo (wpAny_pure h₃))) fun _ _ x => x)
  exact wpAny_pure (wpAny_bind fin)
def dIx : D → D → Option D
  | .lst xs, .int i => atI xs i
  | .tup xs, .int i => atI xs i
  | .str cs, .int i => (atI cs i).map fun n => .str [n]
  | .dct kvs, k => (asK k).bind fun k => lookK k kvs
  | _, _ => none
theorem atI_dns {K : PySem.W.Frag} {mg : Str → Option Value} {F : Hp} {vs : List V} {ds : List D} {i : Int} {d : D} (r : Dns K mg F vs ds) (h : atI ds i = some d) : ∃ v, atI vs i = some v ∧ Dn K mg F v d := by
  unfold atI at h ⊢
  rw [r.length]
  cases e : ixN ds.length i with
  | none => rw [e] at h; cases h
  | some j => rw [e] at h; exact r.get h
theorem atI_mem {α : Type} {xs : List α} {i : Int} {x : α} (h : atI xs i = some x) : x ∈ xs := by
  unfold atI at h
  cases e : ixN xs.length i with
  | none => rw [e] at h; cases h
  | some j => rw [e] at h; exact List.mem_of_getElem? h
theorem okS_one {n : Nat} (h : n < 0x110000) : okS [n] := ⟨by show 1 ≤ sz; decide, fun x hx => by have := List.mem_singleton.mp hx; omega⟩
theorem ed_ix {a b : Expr} {f g : M D} {pos : Pos} (ha : ED c a f) (hb : ED c b g) (hs : PlainIx b := by intro _ _; rfl) : ED c (.Subscript a b pos) (op2 dIx f g) :=
  ed_op2 ha hb fun X W z => by
    refine ⟨_, ?_, fun _ _ pa pb => pe_ix (IxR.or ix_list (IxR.or ix_tup (IxR.or ix_str (ix_dict (by have := z.room.units; omega))))) pa pb hs⟩
    intro F H x y dx dy d Q e hx hy h a
    unfold dIx at h
    split at h
    · cases hx with
      | lst h1 r1 l1 =>
        cases hy
        obtain ⟨v, q1, q2⟩ := atI_dns r1 h
        exact .inl ⟨_, _, _, v, rfl, rfl, .inl (same_rd e h1), q1, a.here e q2⟩
    · cases hx with
      | tup h1 r1 l1 =>
        cases hy
        obtain ⟨v, q1, q2⟩ := atI_dns r1 h
        exact .inr (.inl ⟨_, _, _, v, rfl, rfl, by rw [z.K]; exact same_t e h1, q1, a.here e q2⟩)
    · rename_i cs i
      cases hx with
      | str _ h1 =>
        cases hy
        cases q : atI cs i with
        | none => rw [q] at h; cases h
        | some n =>
          rw [q] at h
          cases h
          refine .inr (.inr (.inl ⟨_, _, n, rfl, rfl, by rw [toS_length, sz_eq]; exact h1.1, by rw [toS_cps]; exact q, ?_⟩))
          exact a.here e (.str [n] (okS_one (h1.2 n (atI_mem q))))
    · cases hk : asK dy with
      | none => rw [hk] at h; cases h
      | some k =>
        rw [hk] at h
        cases hx with
        | dct h1 r1 l1 =>
          rcases dkv_look k r1 with ⟨q1, q2⟩ | ⟨d2, v2, q1, q2, q3⟩
          · have h : lookK k _ = some d := h
            rw [q1] at h; cases h
          · have h : lookK k _ = some d := h
            rw [q1] at h; cases h
            exact .inr (.inr (.inr ⟨_, v2, rfl, .inl ⟨_, _, same_rd e (.inr ⟨_, h1⟩), asK_V hy hk, q2.symm⟩, a.here e q3⟩))
    · cases h
theorem eo_none : EO c none (ret none) := fun G X W z => po_imp po_none fun σ H Q ⟨F, ρ, R, q⟩ => q none F H (Same.refl _) R rfl
def asI : D → Option Int
  | .int i => some i
  | _ => none
def opt (m : M D) : M (Option Int) := bnd m fun x => match asI x with
  | some i => ret (some i)
  | none => fun _ => .bad
theorem eo_some {e : Expr} {f : M D} (h : ED c e f) : EO c (some e) (opt f) := fun G X W z => po_imp (po_some (h G X W z)) fun σ H Q ⟨F, ρ, R, q⟩ => by
  refine tG_bind R q fun F1 H1 ρ1 x dx s1 R1 rx q1 => ?_
  cases rx <;> try exact q1.elim
  exact ⟨_, rfl, q1 _ F1 H1 (Same.refl _) R1 rfl⟩
def cutD {α : Type} (xs : List α) (lo hi : Option Int) : List α := (xs.drop (HT.sIx xs.length 0 lo)).take (HT.sIx xs.length xs.length hi - HT.sIx xs.length 0 lo)
def dSl : D → Option Int → Option Int → Option D
  | .lst xs, lo, hi => some (.lst (cutD xs lo hi))
  | .tup xs, lo, hi => some (.tup (cutD xs lo hi))
  | .str xs, lo, hi => some (.str (cutD xs lo hi))
  | _, _, _ => none
def slM (a : M D) (lo hi : M (Option Int)) : M D := bnd a fun x => bnd lo fun l => bnd hi fun h => lift (dSl x l h)
theorem cut_dns {K : PySem.W.Frag} {mg : Str → Option Value} {F : Hp} {vs : List V} {ds : List D} {lo hi : Option Int} (r : Dns K mg F vs ds) : Dns K mg F (cutV vs lo hi) (cutD ds lo hi) := by
  unfold cutV cutD
  rw [r.length]
  exact (r.drop _).take _
theorem cutD_le {α : Type} (xs : List α) (lo hi : Option Int) : (cutD xs lo hi).length ≤ xs.length := by
  unfold cutD
  rw [List.length_take, List.length_drop]
  omega
theorem cut_whole {α : Type} {xs : List α} {lo hi : Option Int} (h : HT.sIx xs.length 0 lo = 0 ∧ HT.sIx xs.length xs.length hi = xs.length) : cutD xs lo hi = xs := by
  unfold cutD
  rw [h.1, h.2]
  simp
theorem okS_sub {a b : Cs} (h : okS a) (s : b.Sublist a) : okS b := ⟨Nat.le_trans s.length_le h.1, fun x hx => h.2 x (s.subset hx)⟩
theorem ed_slice {a : Expr} {lo hi : Option Expr} {f : M D} {g k : M (Option Int)} {pos p2 : Pos} (ha : ED c a f) (hl : EO c lo g) (hh : EO c hi k) : ED c (.Subscript a (.Slice lo hi none p2) pos) (slM f g k) := fun G X W z => by
  refine pe_imp (pe_slice (SlR.or sl_list (SlR.or sl_tupA sl_str)) (ha G X W z) (hl G X W z) (hh G X W z)) fun σ H Q ⟨F, ρ, R, q⟩ => ?_
  refine tG_bind R q fun F1 H1 ρ1 x dx s1 R1 rx q1 => ?_
  refine tG_bind R1 q1 fun F2 H2 ρ2 l l' s2 R2 rl q2 => ?_
  refine tG_bind R2 q2 fun F3 H3 ρ3 u u' s3 R3 ru q3 => ?_
  subst rl ru
  have rx := rx.mono (s2.trans s3)
  obtain ⟨d, e, af⟩ := q3.lift R3
  have e3 := R3.fh
  cases rx <;> simp only [dSl] at e <;> try cases e
  · rename_i h1
    refine .inr (.inr ⟨_, rfl, by rw [toS_length, sz_eq]; exact h1.1, ?_⟩)
    have : cutS (toS ‹Cs›) l u = toS (cutD ‹Cs› l u) := by
      unfold cutS cutD
      rw [toS_length, toS_cps]
      rfl
    rw [this]
    exact af.here e3 (.str _ (okS_sub h1 ((List.take_sublist _ _).trans (List.drop_sublist _ _))))
  · rename_i h1 r1 l1
    refine .inr (.inl ⟨_, _, rfl, by rw [z.K]; exact same_t e3 h1, fun hw => ?_, fun _ p hp => after_tup e3 af hp (cut_dns r1) (Nat.le_trans (cutD_le _ _ _) l1)⟩)
    have hw' := hw
    rw [r1.length] at hw'
    rw [cut_whole hw'] at af
    exact af.here e3 (.tup h1 r1 l1)
  · rename_i h1 r1 l1
    exact .inl ⟨_, _, rfl, .inl (same_rd e3 h1), fun p hp => after_lst e3 af hp (cut_dns r1) (Nat.le_trans (cutD_le _ _ _) l1)⟩

/-! ### tests -/
def tru : D → Option Bool
  | .non => some false | .bl b => some b | .int i => some (i != 0) | .str cs => some (!cs.isEmpty)
  | .lst xs => some (!xs.isEmpty) | .tup xs => some (!xs.isEmpty) | _ => none
theorem tru_ok {K : PySem.W.Frag} {mg : Str → Option Value} {F H : Hp} {x : V} {d : D} {b : Bool} (e : Same F H) (h : Dn K mg F x d) (t : tru d = some b) : TruV K x H b := by
  cases h <;> simp only [tru] at t <;> try cases t
  · rfl
  · rfl
  · rfl
  · rename_i cs h1
    refine ⟨by rw [toS_length, sz_eq]; exact h1.1, ?_⟩
    rw [toS_length]
    cases cs with
    | nil => rfl
    | cons a r =>
      show true = _
      symm
      simp only [List.length_cons, bne_iff_ne, ne_eq]
      omega
  · rename_i h1 r1 l1
    refine .inr (.inl ⟨_, same_t e h1, ?_⟩)
    cases r1 <;> rfl
  · rename_i h1 r1 l1
    refine .inl ⟨_, .inl (same_rd e h1), ?_⟩
    cases r1 <;> rfl
def trM (a : M D) : M Bool := bnd a fun x => lift (tru x)
theorem Post.liftT {G : Ent} {W : WX} {σ : L2.St} {H F : Hp} {ρ : En} {o : Option Bool} {Q : Bool → Hp → Prop} (r : Rel c.K c.mg c.xt G F H σ ρ) (h : Post (fun _ (b a : Bool) => b = a) c G W F σ (DL.lift o ρ) Q) : ∃ d, o = some d ∧ Q d H := by
  cases o with
  | none => exact h.elim
  | some d => exact ⟨d, rfl, h d F H (Same.refl _) r rfl⟩
theorem et_val {a : Expr} {f : M D} (ha : ED c a f) (he : ∀ env whole, PySem.isTrue a env whole = (do let v ← whole; standAt a.pos; holding [v] (truthy v)) := by intro _ _; rfl) : ET c a (trM f) := fun G X W z => by
  refine pt_imp (pt_truth (ha G X W z) (he _)) fun σ H Q ⟨F, ρ, R, q⟩ => ?_
  refine tG_bind R q fun F1 H1 ρ1 x dx s1 R1 rx q1 => ?_
  obtain ⟨b, e, q2⟩ := q1.liftT R1
  exact ⟨b, by rw [z.K]; exact tru_ok R1.fh rx e, q2⟩
def andT (a b : M Bool) : M Bool := bnd a fun x => if x then b else ret false
def orT (a b : M Bool) : M Bool := bnd a fun x => if x then ret true else b
def notT (a : M Bool) : M Bool := bnd a fun x => ret (!x)
theorem EW.et {e : Expr} {m : M Bool} (h : EW c e m) : ET c e m := fun G X W z => (h G X W z).pt
theorem ew_and1 {a : Expr} {f : M Bool} {pos} (h : ET c a f) : EW c (.BoolOp .And [a] pos) f := fun G X W z => pw_and1 (h G X W z)
theorem ew_or1 {a : Expr} {f : M Bool} {pos} (h : ET c a f) : EW c (.BoolOp .Or [a] pos) f := fun G X W z => pw_or1 (h G X W z)
theorem ew_and {a b : Expr} {rest : List Expr} {f g : M Bool} {pos} (ha : ET c a f) (hb : EW c (.BoolOp .And (b :: rest) pos) g) : EW c (.BoolOp .And (a :: b :: rest) pos) (andT f g) := fun G X W z => by
  refine pw_imp (pw_and (ha G X W z) (hb G X W z)) fun σ H Q ⟨F, ρ, R, q⟩ => ?_
  refine tG_bind R q fun F1 H1 ρ1 x dx s1 R1 rx q1 => ?_
  subst rx
  cases x with
  | true => rw [if_pos rfl]; exact ⟨F1, ρ1, R1, q1⟩
  | false => rw [if_neg Bool.false_ne_true]; exact q1 false F1 H1 (Same.refl _) R1 rfl
theorem ew_or {a b : Expr} {rest : List Expr} {f g : M Bool} {pos} (ha : ET c a f) (hb : EW c (.BoolOp .Or (b :: rest) pos) g) : EW c (.BoolOp .Or (a :: b :: rest) pos) (orT f g) := fun G X W z => by
  refine pw_imp (pw_or (ha G X W z) (hb G X W z)) fun σ H Q ⟨F, ρ, R, q⟩ => ?_
  refine tG_bind R q fun F1 H1 ρ1 x dx s1 R1 rx q1 => ?_
  subst rx
  cases x with
  | false => rw [if_neg Bool.false_ne_true]; exact ⟨F1, ρ1, R1, q1⟩
  | true => rw [if_pos rfl]; exact q1 true F1 H1 (Same.refl _) R1 rfl
theorem et_not {a : Expr} {f : M Bool} {pos} (ha : ET c a f) : ET c (.UnaryOp .Not a pos) (notT f) := fun G X W z => by
  refine pt_imp (pt_not (ha G X W z)) fun σ H Q ⟨F, ρ, R, q⟩ => ?_
  refine tG_bind R q fun F1 H1 ρ1 x dx s1 R1 rx q1 => ?_
  subst rx
  exact q1 _ F1 H1 (Same.refl _) R1 rfl
/-- by values -/
def andV (a b : M D) : M D := bnd a fun x => bnd (lift (tru x)) fun t => if t then b else ret x
def orV (a b : M D) : M D := bnd a fun x => bnd (lift (tru x)) fun t => if t then ret x else b
def notV (a : M D) : M D := bnd a fun x => bnd (lift (tru x)) fun t => ret (.bl (!t))
theorem post_tru {G : Ent} {W : WX} {σ : L2.St} {H F : Hp} {ρ : En} {x : V} {d : D} {f : Bool → M D} {Q : VK} (r : Rel c.K c.mg c.xt G F H σ ρ) (rx : Dn c.K c.mg F x d) (h : Post (Dn c.K c.mg) c G W F σ (bnd (lift (tru d)) f ρ) Q) :
    ∃ t, tru d = some t ∧ TruV c.K x H t ∧ Post (Dn c.K c.mg) c G W F σ (f t ρ) Q := by
  unfold bnd lift at h
  cases e : tru d with
  | none => simp only [e] at h; exact h.elim
  | some t => simp only [e] at h; exact ⟨t, rfl, tru_ok r.fh rx e, h⟩
theorem ed_and1 {a : Expr} {f : M D} {op pos} (h : ED c a f) : ED c (.BoolOp op [a] pos) f := fun G X W z => pe_one (h G X W z)
theorem ed_and {a b : Expr} {rest : List Expr} {f g : M D} {pos} (ha : ED c a f) (hb : ED c (.BoolOp .And (b :: rest) pos) g) : ED c (.BoolOp .And (a :: b :: rest) pos) (andV f g) := fun G X W z => by
  refine pe_imp (pe_andT (ha G X W z) (hb G X W z)) fun σ H Q ⟨F, ρ, R, q⟩ => ?_
  refine tG_bind R q fun F1 H1 ρ1 x dx s1 R1 rx q1 => ?_
  obtain ⟨t, _, t2, q2⟩ := post_tru R1 rx q1
  refine ⟨t, by rw [z.K]; exact t2, ?_⟩
  cases t with
  | true => rw [if_pos rfl]; exact ⟨F1, ρ1, R1, q2⟩
  | false => rw [if_neg Bool.false_ne_true]; exact q2 x F1 H1 (Same.refl _) R1 rx
theorem ed_or {a b : Expr} {rest : List Expr} {f g : M D} {pos} (ha : ED c a f) (hb : ED c (.BoolOp .Or (b :: rest) pos) g) : ED c (.BoolOp .Or (a :: b :: rest) pos) (orV f g) := fun G X W z => by
  refine pe_imp (pe_orT (ha G X W z) (hb G X W z)) fun σ H Q ⟨F, ρ, R, q⟩ => ?_
  refine tG_bind R q fun F1 H1 ρ1 x dx s1 R1 rx q1 => ?_
  obtain ⟨t, _, t2, q2⟩ := post_tru R1 rx q1
  refine ⟨t, by rw [z.K]; exact t2, ?_⟩
  cases t with
  | false => rw [if_neg Bool.false_ne_true]; exact ⟨F1, ρ1, R1, q2⟩
  | true => rw [if_pos rfl]; exact q2 x F1 H1 (Same.refl _) R1 rx
theorem ed_not {a : Expr} {f : M D} {pos} (ha : ED c a f) : ED c (.UnaryOp .Not a pos) (notV f) := fun G X W z => by
  refine pe_imp (pe_notT (ha G X W z)) fun σ H Q ⟨F, ρ, R, q⟩ => ?_
  refine tG_bind R q fun F1 H1 ρ1 x dx s1 R1 rx q1 => ?_
  obtain ⟨t, _, t2, q2⟩ := post_tru R1 rx q1
  exact ⟨t, by rw [z.K]; exact t2, q2 _ F1 H1 (Same.refl _) R1 (.bl _)⟩
def ifE (t : M Bool) (a b : M D) : M D := bnd t fun x => if x then a else b
theorem ed_if {t a b : Expr} {f : M Bool} {g k : M D} {pos} (ht : ET c t f) (ha : ED c a g) (hb : ED c b k) : ED c (.IfExp t a b pos) (ifE f g k) := fun G X W z => by
  refine pe_imp (pe_ifExp (ht G X W z) (ha G X W z) (hb G X W z)) fun σ H Q ⟨F, ρ, R, q⟩ => ?_
  refine tG_bind R q fun F1 H1 ρ1 x dx s1 R1 rx q1 => ?_
  subst rx
  cases x with
  | true => rw [if_pos rfl]; exact ⟨F1, ρ1, R1, q1⟩
  | false => rw [if_neg Bool.false_ne_true]; exact ⟨F1, ρ1, R1, q1⟩
/-- a < b < c -/
def asB : D → Option Bool
  | .bl b => some b
  | _ => none
def chM (r r' : D → D → Option D) (a b e : M D) : M D := bnd a fun x => bnd b fun y => bnd (lift ((r x y).bind asB)) fun k => if k then bnd e fun w => lift (r' y w) else ret (.bl false)
theorem ed_chain {op op' : CmpOp} {r r' : D → D → Option D} {a b d : Expr} {f g k : M D} {pos : Pos} (h : COp c op r) (h' : COp c op' r') (ha : ED c a f) (hb : ED c b g) (hd : ED c d k) (hl : lastMarks [op, op'] [b, d] = false := by rfl) :
    ED c (.Compare a [op, op'] [b, d] pos) (chM r r' f g k) := fun G X W z => by
  obtain ⟨rV, o, ok⟩ := h X W z
  obtain ⟨rV', o', ok'⟩ := h' X W z
  refine pe_imp (pe_chain o o' (ha G X W z) (hb G X W z) (hd G X W z) hl) fun σ H Q ⟨F, ρ, R, q⟩ => ?_
  refine tG_bind R q fun F1 H1 ρ1 x dx s1 R1 rx q1 => ?_
  refine tG_bind R1 q1 fun F2 H2 ρ2 y dy s2 R2 ry q2 => ?_
  unfold bnd lift at q2
  cases e : r dx dy with
  | none => simp only [e] at q2; exact q2.elim
  | some dv =>
    simp only [e] at q2
    cases dv <;> try exact q2.elim
    rename_i kb
    refine ok F2 H2 x y dx dy _ _ R2.fh (rx.mono s2) ry e fun v3 F3 H3 ex rv => ?_
    cases rv
    refine ⟨kb, rfl, ?_⟩
    have R3 := R2.ext ex
    have q3 := Post.mono ex.ff q2
    cases kb with
    | false => rw [if_neg Bool.false_ne_true]; exact q3 _ F3 H3 (Same.refl _) R3 (.bl _)
    | true =>
      rw [if_pos rfl]
      refine tG_bind (f := fun w => lift (r' dy w)) R3 q3 fun F4 H4 ρ4 w dw s4 R4 rw4 q4 => ?_
      obtain ⟨d', e4, af⟩ := q4.lift R4
      exact ok' F4 H4 y w dy dw d' Q R4.fh (ry.mono (ex.ff.trans s4)) rw4 e4 af
/-! ### comparisons as tests -/
def tbM (a : M D) : M Bool := bnd a fun x => lift (asB x)
theorem tbM_test {G : Ent} {W : WX} {σ : L2.St} {H : Hp} {Q : Bool → Hp → Prop} {m : M D} {t : TE} (h : tT c G W (tbM m) σ H Q) (i : ∀ {Q' : VK}, tD c G W m σ H Q' → t σ H Q') : tTest t σ H Q := by
  obtain ⟨F, ρ, R, q⟩ := h
  refine i (tG_bind R q fun F1 H1 ρ1 x dx s1 R1 rx q1 => ?_)
  obtain ⟨b, e, af⟩ := q1.liftT R1
  cases rx <;> simp only [asB] at e <;> cases e
  exact ⟨_, rfl, af⟩
theorem et_cmp {op : CmpOp} {r : D → D → Option D} {a b : Expr} {f g : M D} {pos : Pos} (h : COp c op r) (ha : ED c a f) (hb : ED c b g) (hm : behindInMarks op b = false) : ET c (.Compare a [op] [b] pos) (tbM (op2 r f g)) := fun G X W z => by
  obtain ⟨rV, o, ok⟩ := h X W z
  refine pt_imp (pt_cmpR o (ha G X W z) (hb G X W z) hm) fun σ H Q h => tbM_test h fun ⟨F, ρ, R, q⟩ => ?_
  refine tG_bind R q fun F1 H1 ρ1 x dx s1 R1 rx q1 => ?_
  refine tG_bind R1 q1 fun F2 H2 ρ2 y dy s2 R2 ry q2 => ?_
  obtain ⟨d, e, af⟩ := q2.lift R2
  exact ok F2 H2 x y dx dy d _ R2.fh (rx.mono s2) ry e af
end
end DL

namespace DL
open PySem L2
section
variable {c : Stat}
/-! ### statements -/
def seqM (a b : M Fl) : M Fl := bnd a fun f => match f with
  | .nx => b
  | f => ret f
def ifM (t : M Bool) (a b : M Fl) : M Fl := bnd t fun x => if x then a else b
def retM (e : M D) : M Fl := bnd e fun d => ret (.rt d)
def retN : M Fl := ret (.rt .non)
def dropM (e : M D) : M Fl := bnd e fun _ => ret .nx
def passM : M Fl := ret .nx
/-- a plain store: not over a mutable thing of its own -/
abbrev Tg := D → En → Option En
def put (i : Nat) : Tg := fun d ρ => match ρ[i]? with
  | some (.ow _) => none
  | some _ => some (ρ.set i (.fz d))
  | none => none
/-- target = e -/
def asgM (t : Tg) (e : M D) : M Fl := bnd e fun d ρ => match t d ρ with
  | some ρ' => .ok .nx ρ'
  | none => .bad
theorem Rel.put {G : Ent} {F H : Hp} {σ : L2.St} {ρ ρ' : En} {i : Nat} {v : V} {d : D} (R : Rel c.K c.mg c.xt G F H σ ρ) (r : Dn c.K c.mg F v d) (h : DL.put i d ρ = some ρ') : Rel c.K c.mg c.xt G F H (σ.set i (some v)) ρ' := by
  unfold DL.put at h
  have key : (∀ e, ρ[i]? ≠ some (.ow e)) ∧ i < ρ.length ∧ ρ' = ρ.set i (.fz d) := by
    cases e : ρ[i]? with
    | none => rw [e] at h; cases h
    | some s =>
      have hl : i < ρ.length := (List.getElem?_eq_some_iff.mp e).1
      cases s with
      | ow _ => rw [e] at h; cases h
      | un => rw [e] at h; cases h; exact ⟨(fun _ q => by cases q), hl, rfl⟩
      | xc _ => rw [e] at h; cases h; exact ⟨(fun _ q => by cases q), hl, rfl⟩
      | fz _ => rw [e] at h; cases h; exact ⟨(fun _ q => by cases q), hl, rfl⟩
  obtain ⟨nw, hl, rfl⟩ := key
  have hσ : i < σ.length := by rw [R.len]; exact hl
  have old : ∀ (j : Nat) (e : D), (ρ.set i (.fz d))[j]? = some (.ow e) → j ≠ i ∧ ρ[j]? = some (.ow e) := fun j e q => by
    by_cases hj : j = i
    · subst hj
      rw [List.getElem?_set_self hl] at q
      cases q
    · rw [List.getElem?_set_ne (Ne.symm hj)] at q
      exact ⟨hj, q⟩
  refine ⟨R.f0, R.fh, R.kept, fun p hp => ?_, fun j e q => ?_, fun j e q => ?_, fun j k a e f hjk q1 q2 q3 => ?_, ?_, fun p hp => ?_, R.fn, R.tbs, R.tb, R.xcSet (fun x q => by cases q) fun j hj => List.getElem?_set_ne (Ne.symm hj)⟩
  · obtain ⟨e, q⟩ := R.pw p hp
    have : p.1 ≠ i := fun z => nw e (by rw [← z]; exact q)
    rw [List.getElem?_set_ne (Ne.symm this)]
    exact R.par p hp
  · by_cases hj : j = i
    · subst hj
      rw [List.getElem?_set_self hl] at q
      cases q
      exact ⟨v, List.getElem?_set_self hσ, r⟩
    · rw [List.getElem?_set_ne (Ne.symm hj)] at q ⊢
      exact R.fz j e q
  · obtain ⟨hj, q'⟩ := old j e q
    rw [List.getElem?_set_ne (Ne.symm hj)]
    exact R.ow j e q'
  · obtain ⟨hj, q1'⟩ := old j e q1
    obtain ⟨hk, q2'⟩ := old k f q2
    rw [List.getElem?_set_ne (Ne.symm hj)] at q3
    rw [List.getElem?_set_ne (Ne.symm hk)]
    exact R.ne j k a e f hjk q1' q2' q3
  · rw [List.length_set, List.length_set]; exact R.len
  · obtain ⟨e, q⟩ := R.pw p hp
    have : p.1 ≠ i := fun z => nw e (by rw [← z]; exact q)
    exact ⟨e, by rw [List.getElem?_set_ne (Ne.symm this)]; exact q⟩
theorem es_ret {e : Expr} {f : M D} {pos : Pos} (h : ED c e f) : ES c (.Return (some e) pos) (retM f) := fun G X W _ z => by
  refine ps_imp (ps_ret (h G X W z)) fun Z σ H ⟨F, ρ, R, q⟩ => ?_
  refine tG_bindS R q fun F1 H1 ρ1 x dx s1 R1 rx q1 => ?_
  exact q1 x σ F1 H1 (Same.refl _) R1 rx
theorem es_retN {pos : Pos} : ES c (.Return none pos) retN := fun G X W _ z => ps_imp ps_retN fun Z σ H ⟨F, ρ, R, q⟩ => q _ σ F H (Same.refl _) R .non
theorem es_pass {pos : Pos} : ES c (.Pass pos) passM := fun G X W _ z => ps_imp ps_pass fun Z σ H ⟨F, ρ, R, q⟩ => q σ F H (Same.refl _) R
theorem es_break {pos : Pos} : ES c (.Break pos) (ret .bk) := fun G X W _ z => ps_imp ps_break fun Z σ H ⟨F, ρ, R, q⟩ => q σ F H (Same.refl _) R
theorem es_expr {e : Expr} {f : M D} {pos : Pos} (h : ED c e f) (hs : ∀ env, swapsWith e none pos.line env = pure false := by intro _; rfl) : ES c (.Expr e pos) (dropM f) := fun G X W _ z => by
  refine ps_imp (ps_expr (h G X W z) (hs _)) fun Z σ H ⟨F, ρ, R, q⟩ => ?_
  refine tG_bindS R q fun F1 H1 ρ1 x dx s1 R1 rx q1 => ?_
  exact q1 σ F1 H1 (Same.refl _) R1
theorem ess_nil : ESs c [] passM := fun G X W _ z => pss_imp pss_nil fun Z σ H ⟨F, ρ, R, q⟩ => q σ F H (Same.refl _) R
theorem ess_one {s : Stmt} {m : M Fl} (h : ES c s m) : ESs c [s] m := fun G X W p z => pss_one (h G X W p z)
theorem PostS.seq {G : Ent} {W : WX} {F : Hp} {a b : M Fl} {ρ : En} {Z : Ends} (h : PostS c G W F (seqM a b ρ) Z) : PostS c G W F (a ρ) { Z with nx := fun σ' H' => tS c G W b Z σ' H' } := by
  unfold seqM bnd at h
  cases e : a ρ with
  | bad => rw [e] at h; exact h
  | err x ρ' => rw [e] at h; exact h
  | ok f ρ' =>
    rw [e] at h
    cases f with
    | nx => exact fun σ' F' H' s R => ⟨F', ρ', R, PostS.mono s h⟩
    | bk => exact h
    | ct => exact h
    | rt d => exact h
    | ro d => exact h
theorem ess_cons {s : Stmt} {ss : List Stmt} {a b : M Fl} (ha : ES c s a) (hb : ESs c ss b) : ESs c (s :: ss) (seqM a b) := fun G X W p z => by
  refine pss_imp (pss_cons (ha G X W p z) (hb G X W p z)) fun Z σ H ⟨F, ρ, R, q⟩ => ?_
  exact ⟨F, ρ, R, PostS.seq q⟩
theorem es_if {t : Expr} {a b : List Stmt} {f : M Bool} {g k : M Fl} {pos : Pos} (ht : ET c t f) (ha : ESs c a g) (hb : ESs c b k) : ES c (.If t a b pos) (ifM f g k) := fun G X W p z => by
  refine ps_imp (ps_if (ht G X W z) (ha G X W p z) (hb G X W p z)) fun Z σ H ⟨F, ρ, R, q⟩ => ?_
  refine tG_bindS R q fun F1 H1 ρ1 x dx s1 R1 rx q1 => ?_
  subst rx
  cases x with
  | true => rw [if_pos rfl]; exact ⟨F1, ρ1, R1, q1⟩
  | false => rw [if_neg Bool.false_ne_true]; exact ⟨F1, ρ1, R1, q1⟩

/-! ### targets -/
/-- slots but these are as they were -/
def SlotsBut (sl : List Nat) (σ σ' : L2.St) : Prop := σ'.length = σ.length ∧ ∀ j, j ∉ sl → σ'[j]? = σ[j]?
def EG (c : Stat) (tg : Expr) (sl : List Nat) (t : Tg) : Prop := ∃ g, (∀ X W, Cz c X W → PG X tg g) ∧ ∀ G F H σ ρ ρ' x d Q, Rel c.K c.mg c.xt G F H σ ρ → Dn c.K c.mg F x d → t d ρ = some ρ' → (∀ σ', Rel c.K c.mg c.xt G F H σ' ρ' → SlotsBut sl σ σ' → Q σ' H) → g x σ H Q
def EGs (c : Stat) (tgs : List Expr) (sl : List Nat) (t : List D → En → Option En) : Prop := ∃ g, (∀ X W, Cz c X W → PGs X tgs g) ∧ ∀ G F H σ ρ ρ' xs ds Q, Rel c.K c.mg c.xt G F H σ ρ → Dns c.K c.mg F xs ds → t ds ρ = some ρ' → (∀ σ', Rel c.K c.mg c.xt G F H σ' ρ' → SlotsBut sl σ σ' → Q σ' H) → g xs σ H Q
/-- the name in slot i can be stored -/
def Lc (c : Stat) (i : Nat) (x : Str) : Prop := c.N[i]? = some x ∧ (c.sc.names.lookup x = some .local ∨ (c.sc.names.lookup x = some .cell ∧ c.raw.names.lookup x = some .cell))
theorem eg_name {i : Nat} {x : Str} {pos : Pos} (h : Lc c i x) : EG c (.Name x pos) [i] (put i) := by
  refine ⟨gName i, fun X W z => pg_name (by rw [z.N]; exact z.nd) (by rw [z.N]; exact h.1) ?_ ?_, ?_⟩
  · show L2.Loc X.env.scope x
    rw [z.sc]; exact h.2.imp (fun k => k) (fun k => k.1)
  · rcases h.2 with k | k
    · exact .inr (by rw [z.sc]; exact k)
    · exact .inl (z.fnc x k.2)
  · intro G F H σ ρ ρ' x d Q R r e q
    exact q _ (R.put r e) ⟨List.length_set .., fun j hj => List.getElem?_set_ne (fun z => hj (by rw [z]; exact List.mem_cons_self))⟩
def tgN : List D → En → Option En := fun ds ρ => match ds with
  | [] => some ρ
  | _ => none
def tgC (t : Tg) (u : List D → En → Option En) : List D → En → Option En := fun ds ρ => match ds with
  | d :: r => (t d ρ).bind (u r)
  | [] => none
def tgT (n : Nat) (t : List D → En → Option En) : Tg := fun d ρ => match d with
  | .tup ds => if ds.length = n then t ds ρ else none
  | _ => none
theorem egs_cons {e : Expr} {es : List Expr} {t : Tg} {u : List D → En → Option En} {sl sl' : List Nat} (h : EG c e sl t) (hs : EGs c es sl' u) (ha : ∀ env, List.map (fun x => x.snd) (assignEach (e :: es) env) = assign e env :: List.map (fun x => x.snd) (assignEach es env) := by intro _; rfl) : EGs c (e :: es) (sl ++ sl') (tgC t u) := by
  obtain ⟨g, pg, kg⟩ := h
  obtain ⟨gs, pgs, kgs⟩ := hs
  refine ⟨gCons g gs, fun X W z => pgs_cons (pg X W z) (pgs X W z) (ha _), fun G F H σ ρ ρ' xs ds Q R r e q => ?_⟩
  cases r with
  | nil => cases e
  | cons r1 r2 =>
    refine ⟨_, _, rfl, ?_⟩
    unfold tgC at e
    dsimp only at e
    cases e1 : t _ ρ with
    | none => rw [e1] at e; cases e
    | some ρ1 =>
      rw [e1] at e
      exact kg G F H σ ρ ρ1 _ _ _ R r1 e1 fun σ' R' b1 => kgs G F H σ' ρ1 ρ' _ _ Q R' r2 e fun σ2 R2 b2 => q σ2 R2 ⟨b2.1.trans b1.1, fun j hj => (b2.2 j fun z => hj (List.mem_append_right _ z)).trans (b1.2 j fun z => hj (List.mem_append_left _ z))⟩
theorem eg_tup {es : List Expr} {k : Nat} {pos : Pos} {t : List D → En → Option En} {n : Nat} {sl : List Nat} (h : EGs c es sl t) (hn : ∀ env, (assignEach es env).length = n := by intro _; rfl) (hf : ∀ env, List.findIdx? (fun x => x.fst) (assignEach es env) = none := by intro _; rfl) (hc : c.hot = false := by first | rfl | assumption) : EG c (.Tuple es k pos) sl (tgT n t) := by
  obtain ⟨g, pg, kg⟩ := h
  refine ⟨gTup c.K n g, fun X W z => (by rw [← z.K]; exact pg_tup (z.calm hc) (pg X W z) (hn _) (hf _)), fun G F H σ ρ ρ' x d Q R r e q => ?_⟩
  unfold tgT at e
  cases r <;> try cases e
  rename_i h1 r1 l1
  dsimp only at e
  split at e
  · rename_i hl
    exact ⟨_, _, rfl, same_t R.fh h1, by rw [r1.length]; exact hl, kg G F H σ ρ ρ' _ _ Q R r1 e q⟩
  · cases e
theorem es_asg {tg e : Expr} {f : M D} {t : Tg} {sl : List Nat} {pos : Pos} (he : ED c e f) (hg : EG c tg sl t) (h1 : ∀ X W, Cz c X W → swapsWithSole [tg] e pos.line X.env = pure false := by intro _ _ _; rfl) (h2 : ∀ X W, Cz c X W → swappedStores [tg] e X.env = pure none := by intro _ _ _; rfl)
    (h3 : ∀ env, List.map (fun x => x.snd) (assignEach [tg] env) = [assign tg env] := by intro _; rfl) : ES c (.Assign [tg] e pos) (asgM t f) := fun G X W p z => by
  obtain ⟨g, pg, kg⟩ := hg
  refine ps_imp (ps_asg (he G X W z) (pg X W z) (h1 X W z) (h2 X W z) (h3 _)) fun Z σ H ⟨F, ρ, R, q⟩ => ?_
  refine tG_bindS R q fun F1 H1 ρ1 x dx s1 R1 rx q1 => ?_
  cases e : t dx ρ1 with
  | none => rw [e] at q1; exact q1.elim
  | some ρ' => rw [e] at q1; exact kg G F1 H1 σ ρ1 ρ' x dx Z.nx R1 rx e fun σ' R' _ => q1 σ' F1 H1 (Same.refl _) R'
/-! ### loops -/
/-- J walks the items ds -/
def Walks (c : Stat) (F : Hp) (J : It) (ds : List D) : Prop := ∀ (i : Nat) F1 H1, Same F F1 → Same F1 H1 →
  (∀ d, ds[i]? = some d → J.go i H1 ∧ ∀ x H2, J.yld i H1 x H2 → ∃ F2, Ext F1 H1 F2 H2 ∧ Dn c.K c.mg F2 x d) ∧ (ds.length ≤ i → J.stop i H1) ∧ ds.length ≤ sz
abbrev tI (c : Stat) (G : Ent) (W : WX) (m : M (List D)) : TI := tG (Walks c) c G W m
def EI (c : Stat) (tg e : Expr) (m : M (List D)) : Prop := ∀ G X W, Cz c X W → PI X tg e (tI c G W m)
theorem pi_imp {X : Cx} {tg e : Expr} {t t' : TI} (h : PI X tg e t) (i : ∀ σ H Q, t' σ H Q → t σ H Q) : PI X tg e t' := ⟨fun pins s σ H Q I q => h.run pins s σ H Q I (i _ _ _ q)⟩
def forL (t : Tg) (body : M Fl) : List D → M Fl
  | [] => ret .nx
  | d :: r => fun ρ => match t d ρ with
    | none => .bad
    | some ρ' => match body ρ' with
      | .ok .nx ρ2 => forL t body r ρ2
      | .ok .ct ρ2 => forL t body r ρ2
      | .ok .bk ρ2 => .ok .nx ρ2
      | o => o
def forM (src : M (List D)) (t : Tg) (body : M Fl) : M Fl := bnd src (forL t body)
theorem es_for {tg iter : Expr} {body : List Stmt} {src : M (List D)} {t : Tg} {sl : List Nat} {m : M Fl} {pos : Pos} (hi : EI c tg iter src) (hg : EG c tg sl t) (hb : ESs c body m) (hs : ∀ env x, foldedSetIterable iter env x = pure x := by intro _ _; rfl) (hc : c.hot = false := by first | rfl | assumption) : ES c (.For tg iter body [] pos) (forM src t m) := fun G X W p z => by
  obtain ⟨g, pg, kg⟩ := hg
  refine ps_imp (ps_for z.po (z.calm hc) (hi G X W z) (pg X W z) (hb G X W p z) (hs _)) fun Z σ H ⟨F, ρ, R, q⟩ => ?_
  refine tG_bindS R q fun F1 H1 ρ1 J ds s1 R1 wk q1 => ?_
  refine ⟨fun i n σ' H' => ∃ F' ρ', Same F1 F' ∧ Rel c.K c.mg c.xt G F' H' σ' ρ' ∧ n = ds.length - i ∧ i ≤ ds.length ∧ PostS c G W F' (forL t m (ds.drop i) ρ') Z, ⟨ds.length, F1, ρ1, Same.refl _, R1, by simp, Nat.zero_le _, q1⟩, ?_⟩
  rintro i n σ' H' ⟨F', ρ', s', R', rfl, hi, q'⟩
  obtain ⟨go, stop, _⟩ := wk i F' H' s' R'.fh
  by_cases hlt : i < ds.length
  · right
    have hd : ds[i]? = some ds[i] := List.getElem?_eq_getElem hlt
    obtain ⟨hgo, hy⟩ := go _ hd
    refine ⟨hgo, fun σ2 H2 => ∃ F2 ρ2, Same F1 F2 ∧ Rel c.K c.mg c.xt G F2 H2 σ2 ρ2 ∧ PostS c G W F2 (forL t m (ds.drop (i + 1)) ρ2) Z, ?_, fun x H2 y => ?_⟩
    · rintro σ2 H2 ⟨F2, ρ2, s2, R2, q2⟩
      exact ⟨ds.length - (i + 1), by omega, F2, ρ2, s2, R2, rfl, hlt, q2⟩
    · obtain ⟨F2, ex, rx⟩ := hy x H2 y
      have R2 := R'.ext ex
      have q2 := PostS.mono ex.ff q'
      rw [List.drop_eq_getElem_cons hlt] at q2
      unfold forL at q2
      cases e : t ds[i] ρ' with
      | none => simp only [e] at q2; exact q2.elim
      | some ρ2 =>
        simp only [e] at q2
        refine kg G F2 H2 σ' ρ' ρ2 x _ _ R2 rx e fun σ3 R3 _ => ⟨F2, ρ2, R3, ?_⟩
        have sF := s'.trans ex.ff
        cases e2 : m ρ2 with
        | bad => rw [e2] at q2; exact q2.elim
        | err x ρ3 => rw [e2] at q2; exact q2
        | ok f ρ3 =>
          rw [e2] at q2
          cases f with
          | nx => exact fun σ4 F4 H4 s4 R4 => ⟨F4, ρ3, sF.trans s4, R4, PostS.mono s4 q2⟩
          | ct => exact fun σ4 F4 H4 s4 R4 => ⟨F4, ρ3, sF.trans s4, R4, PostS.mono s4 q2⟩
          | bk => exact q2
          | rt d => exact q2
          | ro d => exact q2
  · left
    have e : i = ds.length := by omega
    subst e
    refine ⟨stop (Nat.le_refl _), ?_⟩
    rw [List.drop_length] at q'
    exact q' σ' F' H' (Same.refl _) R'
/-- while, with so many turns at most -/
def whL (t : M Bool) (body : M Fl) : Nat → M Fl
  | 0 => fun _ => .bad
  | n + 1 => bnd t fun b => if b then fun ρ => (match body ρ with
      | .ok .nx ρ2 => whL t body n ρ2
      | .ok .ct ρ2 => whL t body n ρ2
      | .ok .bk ρ2 => .ok .nx ρ2
      | o => o) else ret .nx
def whM (n : En → Nat) (t : M Bool) (body : M Fl) : M Fl := fun ρ => whL t body (n ρ) ρ
theorem es_while {t : Expr} {body : List Stmt} {f : M Bool} {m : M Fl} {pos : Pos} (n : En → Nat) (ht : ET c t f) (hb : ESs c body m) : ES c (.While t body [] pos) (whM n f m) := fun G X W p z => by
  refine ps_imp (ps_while z.po (ht G X W z) (hb G X W p z)) fun Z σ H ⟨F, ρ, R, q⟩ => ?_
  refine ⟨fun k σ' H' => ∃ F' ρ', Rel c.K c.mg c.xt G F' H' σ' ρ' ∧ PostS c G W F' (whL f m k ρ') Z, ⟨n ρ, F, ρ, R, q⟩, ?_⟩
  rintro k σ' H' ⟨F', ρ', R', q'⟩
  cases k with
  | zero => exact q'.elim
  | succ k =>
    unfold whL at q'
    refine tG_bindS R' q' fun F1 H1 ρ1 b b' s1 R1 rb q1 => ?_
    subst rb
    cases b with
    | false => rw [if_neg Bool.false_ne_true]; exact q1 σ' F1 H1 (Same.refl _) R1
    | true =>
      rw [if_pos rfl]
      refine ⟨fun σ2 H2 => ∃ F2 ρ2, Rel c.K c.mg c.xt G F2 H2 σ2 ρ2 ∧ PostS c G W F2 (whL f m k ρ2) Z, fun σ2 H2 ⟨F2, ρ2, R2, q2⟩ => ⟨k, Nat.lt_succ_self _, F2, ρ2, R2, q2⟩, F1, ρ1, R1, ?_⟩
      rw [if_pos rfl] at q1
      cases e2 : m ρ1 with
      | bad => rw [e2] at q1; exact q1.elim
      | err x ρ3 => rw [e2] at q1; exact q1
      | ok f ρ3 =>
        rw [e2] at q1
        cases f with
        | nx => exact fun σ4 F4 H4 s4 R4 => ⟨F4, ρ3, R4, PostS.mono s4 q1⟩
        | ct => exact fun σ4 F4 H4 s4 R4 => ⟨F4, ρ3, R4, PostS.mono s4 q1⟩
        | bk => exact q1
        | rt d => exact q1
        | ro d => exact q1
end
end DL

namespace DL
open PySem L2
section
variable {c : Stat}
/-! ### what is walked -/
theorem pi_any {X : Cx} {tg l : Expr} {tl : TE} (hl : PE X l tl) : PI X tg l (fun σ H R => tl σ H fun x H1 => (∃ a, x = .ref a ∧ (∃ xs, SqL X.K H1 a xs) ∧ R (Itl X.K a) H1) ∨ (∃ a, x = .ref a ∧ (∃ xs, SqT X.K H1 a xs) ∧ R (Itt X.K a) H1) ∨ (∃ z, x = .str z ∧ R (Its z) H1) ∨
    (∃ d o kvs, x = .ref d ∧ H1 d = some (.frz o (.dK kvs)) ∧ R (Itk d o kvs) H1)) := by
  refine ⟨fun pins s σ H R I h => ?_⟩
  refine thn (hl.run pins s σ H _ I h) fun v s1 ⟨x, H1, I1, r1, q1⟩ => ?_
  rcases q1 with ⟨a, e, ⟨xs, hq⟩, q⟩ | ⟨a, e, ⟨xs, hq⟩, q⟩ | ⟨x, ex, q⟩ | ⟨d, o, kvs, ex, hd, q⟩
  · subst e
    cases r1
    obtain ⟨its, rv, p, hz⟩ := I1.list hq
    refine wpAny_pyIter_list p.isList ?_
    refine ⟨s1.heap.objs.size, [s1.heap.objs.size], _, _, H1, rfl, I1.kept (t' := s1.toks) fun b o e => Heap.get?_push_of_some _ e, turn_list a _, ⟨_, Heap.get?_push_size _ rfl, rfl, rfl⟩, fun b hb => ?_, q⟩
    have e : b = s1.heap.objs.size := by simpa using hb
    subst e
    exact I1.fpOk (Nat.le_refl _) (I1.hok.fresh (Nat.le_refl _))
  · subst e
    cases r1
    obtain ⟨its, rv, p, hz⟩ := I1.tuple hq
    refine wpAny_pyIter_tuple (show s1.heap.IsTuple a its.toArray from p) ?_
    refine ⟨s1.heap.objs.size, [s1.heap.objs.size], _, _, H1, rfl, I1.kept (t' := s1.toks) fun b o e => Heap.get?_push_of_some _ e, turn_tuple a _, ⟨_, Heap.get?_push_size _ rfl, rfl, rfl⟩, fun b hb => ?_, q⟩
    have e : b = s1.heap.objs.size := by simpa using hb
    subst e
    exact I1.fpOk (Nat.le_refl _) (I1.hok.fresh (Nat.le_refl _))
  · subst ex
    obtain ⟨t, rfl⟩ := r1
    cases ha : x.cps.all (· < 128)
    · exact wpAny_pyIter_wide ha (pi_one (tk := s1.toks) I1 _ (turn_str _ x t "str_iterator" (.inr rfl)) ⟨_, Heap.get?_push_size _ rfl, rfl, rfl⟩ q)
    · exact wpAny_pyIter_ascii ha (pi_one (tk := s1.toks) I1 _ (turn_str _ x t "str_ascii_iterator" (.inl rfl)) ⟨_, Heap.get?_push_size _ rfl, rfl, rfl⟩ q)
  · subst ex
    obtain rfl : v = Value.ref d := r1
    obtain ⟨hs, hgd, hx, es, ep, vs, hdt, hsz, kv, hm⟩ := I1.frzK hd
    refine iter_keys hs hgd hx hdt (pi_one (tk := s1.toks) I1 _ (turn_keys _ hdt) ⟨_, Heap.get?_push_size _ rfl, rfl, ?_⟩ q)
    rw [hsz] <;> rfl
def dSeq : D → Option (List D)
  | .lst xs => some xs
  | .tup xs => some xs
  | .str cs => some (cs.map fun n => .str [n])
  | _ => none
def seqS (a : M D) : M (List D) := bnd a fun x => lift (dSeq x)
theorem walks_here {F : Hp} {J : It} {ds : List D} {n : Nat} (hn : ds.length = n) (hz : n ≤ sz) (P : Hp → Prop) (hP : ∀ F1 H1, Same F F1 → Same F1 H1 → P H1) (go : ∀ (i : Nat) H1, P H1 → i < n → J.go i H1) (yl : ∀ (i : Nat) H1 x H2, P H1 → i < n → J.yld i H1 x H2 → H2 = H1 ∧ ∃ d, ds[i]? = some d ∧ Dn c.K c.mg F x d) (st : ∀ (i : Nat) H1, P H1 → n ≤ i → J.stop i H1) : Walks c F J ds := by
  intro i F1 H1 s1 s2
  have p := hP F1 H1 s1 s2
  refine ⟨fun d hd => ?_, fun h => st i H1 p (by omega), by omega⟩
  have hi : i < n := by have := (List.getElem?_eq_some_iff.mp hd).1; omega
  refine ⟨go i H1 p hi, fun x H2 y => ?_⟩
  obtain ⟨rfl, d', hd', r⟩ := yl i H1 x H2 p hi y
  rw [hd] at hd'; cases hd'
  exact ⟨F1, Ext.refl s2, r.mono s1⟩
theorem walks_list {F : Hp} {K' : PySem.W.Frag} {a : Addr} {vs : List V} {ds : List D} (hK : K' = c.K) (h : Rd F a (.lst vs)) (r : Dns c.K c.mg F vs ds) (hl : ds.length ≤ sz) : Walks c F (Itl K' a) ds := by
  have hv := r.length
  refine walks_here rfl hl (fun H1 => Rd H1 a (.lst vs)) (fun F1 H1 s1 s2 => same_rd (s1.trans s2) h) (fun i H1 p hi => ⟨vs, vs[i]'(by omega), .inl p, List.getElem?_eq_getElem (by omega)⟩) (fun i H1 x H2 p hi y => ?_) (fun i H1 p hi => ⟨vs, .inl p, by omega⟩)
  obtain ⟨e, y⟩ := y
  obtain ⟨d, h1, h2⟩ := r.getV (y vs (.inl p))
  exact ⟨e, d, h1, h2⟩
theorem walks_tup {F : Hp} {K' : PySem.W.Frag} {a : Addr} {vs : List V} {ds : List D} (hK : K' = c.K) (h : SqT c.K F a vs) (r : Dns c.K c.mg F vs ds) (hl : ds.length ≤ sz) : Walks c F (Itt K' a) ds := by
  subst hK
  have hv := r.length
  refine walks_here rfl hl (fun H1 => SqT c.K H1 a vs) (fun F1 H1 s1 s2 => same_t (s1.trans s2) h) (fun i H1 p hi => ⟨vs, vs[i]'(by omega), p, List.getElem?_eq_getElem (by omega)⟩) (fun i H1 x H2 p hi y => ?_) (fun i H1 p hi => ⟨vs, p, by omega⟩)
  obtain ⟨e, y⟩ := y
  obtain ⟨d, h1, h2⟩ := r.getV (y vs p)
  exact ⟨e, d, h1, h2⟩
theorem walks_str {F : Hp} {cs : Cs} (h : okS cs) : Walks c F (Its (toS cs)) (cs.map fun n => .str [n]) := by
  have hsz : (toS cs).cps.size = cs.length := by simp [toS]
  refine walks_here (n := cs.length) (by simp) h.1 (fun _ => True) (fun _ _ _ _ => trivial) (fun i H1 _ hi => ?_) (fun i H1 x H2 _ hi y => ?_) (fun i H1 _ hi => ?_)
  · show i < (toS cs).cps.size
    omega
  · obtain ⟨e, n, h1, h2⟩ := y
    have h3 : cs[i]? = some n := by simpa [toS] using h1
    refine ⟨e, .str [n], by simp [h3], ?_⟩
    rw [h2]
    exact .str [n] (okS_one (h.2 n (List.mem_of_getElem? h3)))
  · show (toS cs).cps.size ≤ i
    omega
theorem Post.liftS {G : Ent} {W : WX} {σ : L2.St} {H F : Hp} {ρ : En} {o : Option (List D)} {R : It → Hp → Prop} (r : Rel c.K c.mg c.xt G F H σ ρ) (h : Post (Walks c) c G W F σ (DL.lift o ρ) R) : ∃ ds, o = some ds ∧ ∀ J, Walks c F J ds → R J H := by
  cases o with
  | none => exact h.elim
  | some d => exact ⟨d, rfl, fun J w => h J F H (Same.refl _) r w⟩
theorem ei_seq {tg e : Expr} {f : M D} (he : ED c e f) : EI c tg e (seqS f) := fun G X W z => by
  refine pi_imp (pi_any (he G X W z)) fun σ H R ⟨F, ρ, r, q⟩ => ?_
  refine tG_bind r q fun F1 H1 ρ1 x dx s1 R1 rx q1 => ?_
  obtain ⟨ds, e, k⟩ := q1.liftS R1
  cases rx <;> simp only [dSeq] at e <;> try cases e
  · rename_i h1
    exact .inr (.inr (.inl ⟨_, rfl, k _ (walks_str h1)⟩))
  · rename_i h1 r1 l1
    exact .inr (.inl ⟨_, rfl, ⟨_, by rw [z.K]; exact same_t R1.fh h1⟩, k _ (walks_tup z.K h1 r1 l1)⟩)
  · rename_i h1 r1 l1
    exact .inl ⟨_, rfl, ⟨_, .inl (same_rd R1.fh h1)⟩, k _ (walks_list z.K h1 r1 l1)⟩
/-- range -/
def rng (lo : Int) (n : Nat) : List D := (List.range n).map fun (i : Nat) => .int (lo + (i : Int))
def dRng1 : List D → Option (List D)
  | [.int j] => if j.toNat ≤ sz ∧ -(2 ^ 62) ≤ j then some (rng 0 j.toNat) else none
  | _ => none
def dRng2 : List D → Option (List D)
  | [.int i, .int j] => if (j - i).toNat ≤ sz ∧ -(2 ^ 62) ≤ i ∧ i < 2 ^ 62 ∧ -(2 ^ 62) ≤ j ∧ j < 2 ^ 62 then some (rng i (j - i).toNat) else none
  | _ => none
def srcL (r : List D → Option (List D)) (a : M (List D)) : M (List D) := bnd a fun x => lift (r x)
theorem walks_rng {F : Hp} {lo : Int} {n : Nat} (h : n ≤ sz) : Walks c F (Itr lo n) (rng lo n) := by
  refine walks_here (n := n) (by simp [rng]) h (fun _ => True) (fun _ _ _ _ => trivial) (fun i H1 _ hi => hi) (fun i H1 x H2 _ hi y => ?_) (fun i H1 _ hi => hi)
  obtain ⟨e, rfl⟩ := y
  refine ⟨e, .int (lo + i), ?_, .int _⟩
  simp [rng, hi]
theorem ei_range1 {tg a : Expr} {f : M (List D)} {p pos : Pos} (hg : Gn c "range") (hm : c.mg "range" = none) (ha : EA c [a] f) (hs : ∀ env, starEach [a] env = [(false, eval a env)] := by intro _; rfl) : EI c tg (.Call (.Name "range" p) [a] [] pos) (srcL dRng1 f) := fun G X W z => by
  refine pi_imp (pi_range1 (hg.gl z) (by rw [z.mg]; exact hm) (ha G X W z) (hs _)) fun σ H R ⟨F, ρ, r, q⟩ => ?_
  refine tG_bind r q fun F1 H1 ρ1 x dx s1 R1 rx q1 => ?_
  obtain ⟨ds, e, k⟩ := q1.liftS R1
  unfold dRng1 at e
  split at e
  · rename_i j
    split at e <;> cases e
    rename_i hj
    cases rx with
    | cons r1 r2 =>
      cases r1; cases r2
      have hj' : j.toNat ≤ 16777216 := hj.1
      exact ⟨j, rfl, hj.2, by omega, k _ (walks_rng hj.1)⟩
  · cases e
theorem ei_range2 {tg a b : Expr} {f : M (List D)} {p pos : Pos} (hg : Gn c "range") (hm : c.mg "range" = none) (ha : EA c [a, b] f) (hs : ∀ env, starEach [a, b] env = [(false, eval a env), (false, eval b env)] := by intro _; rfl) (hs2 : ∀ env, starEach [b] env = [(false, eval b env)] := by intro _; rfl) : EI c tg (.Call (.Name "range" p) [a, b] [] pos) (srcL dRng2 f) := fun G X W z => by
  refine pi_imp (pi_range2 (hg.gl z) (by rw [z.mg]; exact hm) (ha G X W z) (hs _) (hs2 _)) fun σ H R ⟨F, ρ, r, q⟩ => ?_
  refine tG_bind r q fun F1 H1 ρ1 x dx s1 R1 rx q1 => ?_
  obtain ⟨ds, e, k⟩ := q1.liftS R1
  unfold dRng2 at e
  split at e
  · rename_i i j
    split at e <;> cases e
    rename_i hj
    cases rx with
    | cons r1 r2 =>
      cases r1
      cases r2 with
      | cons r1 r2 =>
        cases r1; cases r2
        exact ⟨i, j, rfl, hj.2, k _ (walks_rng hj.1)⟩
  · cases e

/-! ### list comprehensions -/
def wipeE (ρ : En) : List Nat → En
  | [] => ρ
  | v :: vs => (wipeE ρ vs).set v .un
theorem wipeE_length (ρ : En) : ∀ vs, (wipeE ρ vs).length = ρ.length
  | [] => rfl
  | v :: vs => by unfold wipeE; rw [List.length_set, wipeE_length ρ vs]
theorem wipeE_out {ρ : En} {i : Nat} : ∀ {vs : List Nat}, i ∉ vs → (wipeE ρ vs)[i]? = ρ[i]?
  | [], _ => rfl
  | v :: vs, h => by
    have h1 : v ≠ i := fun e => h (by rw [e]; exact List.mem_cons_self)
    have h2 : i ∉ vs := fun m => h (List.mem_cons_of_mem _ m)
    unfold wipeE
    rw [List.getElem?_set_ne h1]
    exact wipeE_out h2
theorem wipeE_in {ρ : En} {i : Nat} : ∀ {vs : List Nat}, i ∈ vs → (wipeE ρ vs)[i]? = none ∨ (wipeE ρ vs)[i]? = some .un
  | v :: vs, h => by
    unfold wipeE
    by_cases hv : v = i
    · subst hv
      by_cases hl : v < (wipeE ρ vs).length
      · exact .inr (List.getElem?_set_self hl)
      · exact .inl (List.getElem?_eq_none (by rw [List.length_set]; omega))
    · rw [List.getElem?_set_ne hv]
      rcases List.mem_cons.mp h with e | e
      · exact absurd e.symm hv
      · exact wipeE_in e
def noOw (ρ : En) (vs : List Nat) : Bool := vs.all fun i => match ρ[i]? with
  | some (.ow _) => false
  | _ => true
theorem noOw_of {ρ : En} {vs : List Nat} (h : noOw ρ vs = true) {i : Nat} (hi : i ∈ vs) (d : D) : ρ[i]? ≠ some (.ow d) := fun e => by
  have := List.all_eq_true.mp h i hi
  rw [e] at this
  cases this
theorem Rel.wipe {G : Ent} {F H : Hp} {σ : L2.St} {ρ : En} {vs : List Nat} (R : Rel c.K c.mg c.xt G F H σ ρ) (h : noOw ρ vs = true) : Rel c.K c.mg c.xt G F H (L2.wipe σ vs) (wipeE ρ vs) := by
  have out : ∀ (i : Nat) (s : Sl), (wipeE ρ vs)[i]? = some s → s = .un ∨ (i ∉ vs ∧ ρ[i]? = some s) := fun i s e => by
    by_cases hi : i ∈ vs
    · rcases wipeE_in (ρ := ρ) hi with q | q <;> rw [q] at e <;> cases e
      exact .inl rfl
    · rw [wipeE_out hi] at e
      exact .inr ⟨hi, e⟩
  refine ⟨R.f0, R.fh, R.kept, fun p hp => ?_, fun i d e => ?_, fun i d e => ?_, fun i j a d e hij q1 q2 q3 => ?_, ?_, fun p hp => ?_, R.fn, R.tbs, R.tb, fun i x e => ?_⟩
  · obtain ⟨d, q⟩ := R.pw p hp
    have : p.1 ∉ vs := fun m => noOw_of h m d q
    rw [wipe_out this]
    exact R.par p hp
  · rcases out i _ e with q | ⟨hi, q⟩
    · cases q
    · rw [wipe_out hi]; exact R.fz i d q
  · rcases out i _ e with q | ⟨hi, q⟩
    · cases q
    · rw [wipe_out hi]; exact R.ow i d q
  · rcases out i _ q1 with q | ⟨hi, q1'⟩
    · cases q
    rcases out j _ q2 with q | ⟨hj, q2'⟩
    · cases q
    rw [wipe_out hi] at q3
    rw [wipe_out hj]
    exact R.ne i j a d e hij q1' q2' q3
  · rw [wipe_length, wipeE_length]; exact R.len
  · obtain ⟨d, q⟩ := R.pw p hp
    have : p.1 ∉ vs := fun m => noOw_of h m d q
    exact ⟨d, by rw [wipeE_out this]; exact q⟩
  · rcases out i _ e with q | ⟨hi, q⟩
    · cases q
    · rw [wipe_out hi]; exact R.xc i x q
/-- the names of a comprehension as they were -/
def back (ρ ρ' : En) (vs : List Nat) : En := vs.foldr (fun i r => match ρ[i]? with
  | some s => r.set i s
  | none => r) ρ'
theorem back_length (ρ ρ' : En) : ∀ vs, (back ρ ρ' vs).length = ρ'.length
  | [] => rfl
  | v :: vs => by
    show (match ρ[v]? with | some s => (back ρ ρ' vs).set v s | none => back ρ ρ' vs).length = _
    split
    · rw [List.length_set, back_length ρ ρ' vs]
    · exact back_length ρ ρ' vs
theorem back_out {ρ ρ' : En} {i : Nat} : ∀ {vs : List Nat}, i ∉ vs → (back ρ ρ' vs)[i]? = ρ'[i]?
  | [], _ => rfl
  | v :: vs, h => by
    have h1 : v ≠ i := fun e => h (by rw [e]; exact List.mem_cons_self)
    have h2 : i ∉ vs := fun m => h (List.mem_cons_of_mem _ m)
    show (match ρ[v]? with | some s => (back ρ ρ' vs).set v s | none => back ρ ρ' vs)[i]? = _
    split
    · rw [List.getElem?_set_ne h1]; exact back_out h2
    · exact back_out h2
theorem back_in {ρ ρ' : En} {i : Nat} (hl : ρ.length = ρ'.length) : ∀ {vs : List Nat}, i ∈ vs → (back ρ ρ' vs)[i]? = ρ[i]?
  | v :: vs, h => by
    show (match ρ[v]? with | some s => (back ρ ρ' vs).set v s | none => back ρ ρ' vs)[i]? = _
    by_cases hv : v = i
    · subst hv
      split
      · rename_i s e
        have : v < ρ.length := (List.getElem?_eq_some_iff.mp e).1
        rw [List.getElem?_set_self (by rw [back_length]; omega), e]
      · rename_i e
        have : ρ.length ≤ v := List.getElem?_eq_none_iff.mp e
        rw [List.getElem?_eq_none (by rw [back_length]; omega), e]
    · have hm : i ∈ vs := by
        rcases List.mem_cons.mp h with e | e
        · exact absurd e.symm hv
        · exact e
      split
      · rw [List.getElem?_set_ne hv]; exact back_in hl hm
      · exact back_in hl hm
def ETs (c : Stat) (ifs : List Expr) (m : M Bool) : Prop := ∀ G X W, Cz c X W → PTs X ifs (tT c G W m)
theorem pts_imp {X : Cx} {e : List Expr} {t t' : TT} (h : PTs X e t) (i : ∀ σ H Q, t' σ H Q → t σ H Q) : PTs X e t' := ⟨fun pins s σ H Q I q => h.run pins s σ H Q I (i _ _ _ q)⟩
theorem ets_nil : ETs c [] (ret true) := fun G X W z => pts_imp pts_nil fun σ H Q ⟨F, ρ, R, q⟩ => q true F H (Same.refl _) R rfl
def lcL (vs : List Nat) (t : Tg) (mt : M Bool) (me : M D) : List D → List D → M (List D)
  | [], acc => ret acc
  | d :: r, acc => fun ρ => match t d ρ with
    | none => .bad
    | some ρ1 => match mt ρ1 with
      | .ok true ρ2 => (match me ρ2 with
        | .ok y ρ3 => if noOw ρ3 vs then lcL vs t mt me r (acc ++ [y]) (wipeE ρ3 vs) else .bad
        | _ => .bad)
      | .ok false ρ2 => if noOw ρ2 vs then lcL vs t mt me r acc (wipeE ρ2 vs) else .bad
      | _ => .bad
def lcM (src : M (List D)) (vs : List Nat) (t : Tg) (mt : M Bool) (me : M D) : M D := bnd src fun ds ρ => if noOw ρ vs then (match lcL vs t mt me ds [] (wipeE ρ vs) with
  | .ok ys ρ' => .ok (.lst ys) (back ρ ρ' vs)
  | _ => .bad) else .bad
abbrev Stat.blk (c : Stat) (scope : Scope) : Stat := { c with sc := relS scope c.sc, raw := scope, lam := none, fr := false }
theorem cz_blk {X : Cx} {W : WX} (z : Cz c X W) (hc : c.hot = false) (s : Shared) (H : Hp) (scope : Scope) (cl : List (Str × Addr)) (C : Addr) (fp : List Addr) : Cz (c.blk scope) (X.blk s H scope (compEnvC scope cl C X.env) fp) (fun _ _ _ _ => False) where
  P := z.P
  w := z.w
  K := z.K
  mg := z.mg
  base := z.base
  N := z.N
  sc := by
    show (relabel scope X.env) = relS scope c.sc
    rw [← z.sc]
    rfl
  nd := z.nd
  fnc := fun y h => by
    show (scope.names.lookup y == some .cell) = true
    rw [show scope.names.lookup y = some .cell from h]
    rfl
  calm := z.calm
  lm := fun _ _ e => nomatch e
  fr := fun e => nomatch e
  room := z.room
  hd := z.hd
  xh := z.xh
  xp := fun p hp => by
    have hp : c.xe = some p := hp
    rw [z.xh hc] at hp; cases hp
  gd := z.gd
  tk := takes0
  po := PassesOwn.never
/-! ### an inner entry -/
def owns (σ : L2.St) (ρ : En) : List (Nat × Addr) := (List.range ρ.length).filterMap fun (i : Nat) => match ρ[i]?, σ[i]? with
  | some (.ow _), some (some (.ref a)) => some (i, a)
  | _, _ => none
theorem mem_owns {σ : L2.St} {ρ : En} {i : Nat} {a : Addr} : (i, a) ∈ owns σ ρ ↔ ∃ d, ρ[i]? = some (.ow d) ∧ σ[i]? = some (some (.ref a)) := by
  unfold owns
  rw [List.mem_filterMap]
  constructor
  · rintro ⟨j, hj, e⟩
    split at e
    · rename_i d b h1 h2
      cases e
      exact ⟨d, h1, h2⟩
    · cases e
  · rintro ⟨d, h1, h2⟩
    exact ⟨i, List.mem_range.mpr (List.getElem?_eq_some_iff.mp h1).1, by rw [h1, h2]⟩
theorem Rel.nest {G : Ent} {F H : Hp} {σ : L2.St} {ρ : En} (R : Rel c.K c.mg c.xt G F H σ ρ) : Rel c.K c.mg c.xt ⟨F, H, owns σ ρ⟩ F H σ ρ where
  f0 := Same.refl _
  fh := R.fh
  kept := fun b o h _ _ => h
  par := fun ⟨i, a⟩ hp => by
    obtain ⟨d, h1, h2⟩ := mem_owns.mp hp
    exact h2
  fz := R.fz
  ow := fun i d h => let ⟨a, h1, h2⟩ := R.ow i d h; ⟨a, h1, ⟨h2.nf, .inr ⟨(i, a), mem_owns.mpr ⟨d, h, h1⟩, rfl⟩, h2.at_⟩⟩
  ne := R.ne
  len := R.len
  pw := fun ⟨i, a⟩ hp => by
    obtain ⟨d, h1, h2⟩ := mem_owns.mp hp
    exact ⟨d, h1⟩
  fn := fun b _ => rfl
  tbs := fun b ps h => ⟨ps, h⟩
  tb := R.tb
  xc := R.xc
theorem Rel.unnest {G : Ent} {F F' H H' : Hp} {σ σ' : L2.St} {ρ ρ' : En} (R : Rel c.K c.mg c.xt G F H σ ρ) (R' : Rel c.K c.mg c.xt ⟨F, H, owns σ ρ⟩ F' H' σ' ρ') (hs : ∀ p ∈ G.pa, σ'[p.1]? = σ[p.1]?) : Rel c.K c.mg c.xt G F' H' σ' ρ' where
  f0 := R.f0.trans R'.f0
  fh := R'.fh
  kept := fun b o h ht hp => R'.kept b o (R.kept b o h ht hp) ht fun ⟨i, a⟩ hm e => by
    obtain ⟨d, h1, h2⟩ := mem_owns.mp hm
    obtain ⟨a', q1, q2⟩ := R.ow i d h1
    rw [h2] at q1
    cases q1
    have e : a = b := e
    subst e
    rcases q2.nh with z | ⟨p, pm, z⟩
    · rw [h] at z; cases z
    · exact hp p pm z
  par := fun p hp => by rw [hs p hp]; exact R.par p hp
  fz := R'.fz
  ow := fun i d h => by
    obtain ⟨a, h1, h2⟩ := R'.ow i d h
    refine ⟨a, h1, ⟨h2.nf, ?_, h2.at_⟩⟩
    rcases h2.nh with z | ⟨⟨j, b⟩, hm, z⟩
    · exact .inl (R.h0_none z)
    · obtain ⟨d', q1, q2⟩ := mem_owns.mp hm
      have z : b = a := z
      subst z
      obtain ⟨a', q3, q4⟩ := R.ow j d' q1
      rw [q2] at q3; cases q3
      exact q4.nh
  ne := R'.ne
  len := R'.len
  pw := fun p hp => by
    obtain ⟨d, q⟩ := R.pw p hp
    exact R'.pw (p.1, p.2) (mem_owns.mpr ⟨d, q, R.par p hp⟩)
  fn := fun b h => by
    have q : F' b = F b := R'.fn b (R.h_some h)
    rw [q]; exact R.fn b h
  tbs := fun b ps h => let ⟨qs, q⟩ := R.tbs b ps h; R'.tbs b qs q
  tb := R'.tb
  xc := R'.xc
theorem wipe_in {σ : L2.St} {i : Nat} : ∀ {vs : List Nat}, i ∈ vs → i < σ.length → (L2.wipe σ vs)[i]? = some none
  | v :: vs, h, hl => by
    unfold L2.wipe
    by_cases hv : v = i
    · subst hv
      exact List.getElem?_set_self (by rw [wipe_length]; exact hl)
    · rw [List.getElem?_set_ne hv]
      rcases List.mem_cons.mp h with e | e
      · exact absurd e.symm hv
      · exact wipe_in e hl
theorem wipe_but {σ σ' : L2.St} {sl vs : List Nat} (hs : ∀ i ∈ sl, i ∈ vs) (h : SlotsBut sl (L2.wipe σ vs) σ') : L2.wipe σ' vs = L2.wipe σ vs := by
  have hl : σ'.length = σ.length := by rw [h.1, wipe_length]
  apply List.ext_getElem?
  intro i
  by_cases hi : i ∈ vs
  · by_cases hlt : i < σ.length
    · rw [wipe_in hi hlt, wipe_in hi (by omega)]
    · rw [List.getElem?_eq_none (by rw [wipe_length]; omega), List.getElem?_eq_none (by rw [wipe_length]; omega)]
  · rw [wipe_out hi, h.2 i fun z => hi (hs i z)]
/-- one of the machine's own lists grows -/
theorem Rel.own {G : Ent} {F H : Hp} {σ : L2.St} {ρ : En} {D' : Addr} {o : HO} (R : Rel c.K c.mg c.xt G F H σ ρ) (hf : F D' = none) (h0 : G.H0 D' = none) (hn : ∀ (i : Nat) (d : D), ρ[i]? = some (.ow d) → σ[i]? ≠ some (some (.ref D'))) (pl : PlainA H D') : Rel c.K c.mg c.xt G F (upd H D' o) σ ρ where
  f0 := R.f0
  fh := fun a u e => by rw [upd_ne (ne_of_none e hf)]; exact R.fh a u e
  kept := fun b u h ht hp => by rw [upd_ne (ne_of_none h h0)]; exact R.kept b u h ht hp
  par := R.par
  fz := R.fz
  ow := fun i d h => by
    obtain ⟨a, h1, h2⟩ := R.ow i d h
    have : a ≠ D' := fun z => hn i d h (by rw [← z]; exact h1)
    exact ⟨a, h1, ⟨h2.nf, h2.nh, h2.at_.mono (Same.refl _) fun u q => by rw [upd_ne this]; exact q⟩⟩
  ne := R.ne
  len := R.len
  pw := R.pw
  fn := R.fn
  tbs := fun b ps h => let ⟨qs, q⟩ := R.tbs b ps h; ⟨qs, by rw [upd_ne (ne_of_none h h0)]; exact q⟩
  tb := R.tb.upd pl
  xc := R.xc
theorem Rel.back {G : Ent} {F F' H H' : Hp} {σ : L2.St} {ρ ρ' : En} {vs : List Nat} (R : Rel c.K c.mg c.xt G F H σ ρ) (hw : noOw ρ vs = true) (s : Same F F') (R' : Rel c.K c.mg c.xt G F' H' (L2.wipe σ vs) ρ') : Rel c.K c.mg c.xt G F' H' σ (back ρ ρ' vs) := by
  have hl : ρ.length = ρ'.length := by rw [← R.len, ← R'.len, wipe_length]
  have out : ∀ (i : Nat) (d : D), (DL.back ρ ρ' vs)[i]? = some (.ow d) → i ∉ vs ∧ ρ'[i]? = some (.ow d) := fun i d e => by
    by_cases hi : i ∈ vs
    · rw [back_in hl hi] at e
      exact absurd e (noOw_of hw hi d)
    · rw [back_out hi] at e
      exact ⟨hi, e⟩
  refine ⟨R'.f0, R'.fh, R'.kept, R.par, fun i d e => ?_, fun i d e => ?_, fun i j a d e hij q1 q2 q3 => ?_, ?_, fun p hp => ?_, R'.fn, R'.tbs, R'.tb, fun i x e => ?_⟩
  · by_cases hi : i ∈ vs
    · rw [back_in hl hi] at e
      obtain ⟨v, h1, h2⟩ := R.fz i d e
      exact ⟨v, h1, h2.mono s⟩
    · rw [back_out hi] at e
      obtain ⟨v, h1, h2⟩ := R'.fz i d e
      rw [wipe_out hi] at h1
      exact ⟨v, h1, h2⟩
  · obtain ⟨hi, e'⟩ := out i d e
    obtain ⟨a, h1, h2⟩ := R'.ow i d e'
    rw [wipe_out hi] at h1
    exact ⟨a, h1, h2⟩
  · obtain ⟨hi, e1⟩ := out i d q1
    obtain ⟨hj, e2⟩ := out j e q2
    have := R'.ne i j a d e hij e1 e2 (by rw [wipe_out hi]; exact q3)
    rwa [wipe_out hj] at this
  · rw [back_length, ← hl]; exact R.len
  · obtain ⟨d, q⟩ := R.pw p hp
    have : p.1 ∉ vs := fun m => noOw_of hw m d q
    obtain ⟨d', q'⟩ := R'.pw p hp
    exact ⟨d', by rw [back_out this]; exact q'⟩
  · by_cases hi : i ∈ vs
    · rw [back_in hl hi] at e
      obtain ⟨p, cls, d, h1, h2, h3, h4, h5⟩ := R.xc i x e
      exact ⟨p, cls, d, h1, h2, h3, h4, h5.mono s⟩
    · rw [back_out hi] at e
      obtain ⟨p, cls, d, h1, h2, h3⟩ := R'.xc i x e
      rw [wipe_out hi] at h2
      exact ⟨p, cls, d, h1, h2, h3⟩
theorem lcL_len {vs : List Nat} {t : Tg} {mt : M Bool} {me : M D} : ∀ {ds acc ys : List D} {ρ ρ' : En}, lcL vs t mt me ds acc ρ = .ok ys ρ' → ys.length ≤ acc.length + ds.length
  | [], acc, ys, ρ, ρ', h => by cases h; simp
  | d :: r, acc, ys, ρ, ρ', h => by
    unfold lcL at h
    split at h
    · cases h
    · split at h
      · split at h
        · split at h
          · have := lcL_len h
            simp at this ⊢
            omega
          · cases h
        · cases h
      · split at h
        · have := lcL_len h
          simp at this ⊢
          omega
        · cases h
      · cases h
/-- any entry -/
def tGx {α β : Type} (R : Hp → β → α → Prop) (c : Stat) (W : WX) (m : M α) : L2.St → Hp → (β → Hp → Prop) → Prop := fun σ H Q => ∃ G, tG R c G W m σ H Q
theorem lcT {X : Cx} {W : WX} (z : Cz c X W) (hc : c.hot = false) {ifs : List Expr} {scope : Scope} {mt : M Bool} (ht : ETs (c.blk scope) ifs mt) : ∀ (s : Shared) (H : Hp) (C : Addr) (cl : List (Str × Addr)) (fp : List Addr), PTs (X.blk s H scope (compEnvC scope cl C X.env) fp) ifs (tGx (fun _ (b a : Bool) => b = a) (c.blk scope) (fun _ _ _ _ => False) mt) := fun s H C cl fp =>
    ⟨fun pins s1 σ H1 Q I ⟨G', q⟩ => (ht G' _ _ (cz_blk z hc s H scope cl C fp)).run pins s1 σ H1 Q I q⟩
theorem lcE {X : Cx} {W : WX} (z : Cz c X W) (hc : c.hot = false) {elt : Expr} {scope : Scope} {me : M D} (he : ED (c.blk scope) elt me) : ∀ (s : Shared) (H : Hp) (C : Addr) (cl : List (Str × Addr)) (fp : List Addr), PE (X.blk s H scope (compEnvC scope cl C X.env) fp) elt (tGx (Dn c.K c.mg) (c.blk scope) (fun _ _ _ _ => False) me) := fun s H C cl fp =>
    ⟨fun pins s1 σ H1 Q I ⟨G', q⟩ => (he G' _ _ (cz_blk z hc s H scope cl C fp)).run pins s1 σ H1 Q I q⟩
theorem lc_imp {G : Ent} {W : WX} {vs sl : List Nat} {src : M (List D)} {t : Tg} {mt : M Bool} {me : M D} {g : TG} (hsl : ∀ i ∈ sl, i ∈ vs)
    (kg : ∀ G F H σ ρ ρ' x d Q, Rel c.K c.mg c.xt G F H σ ρ → Dn c.K c.mg F x d → t d ρ = some ρ' → (∀ σ', Rel c.K c.mg c.xt G F H σ' ρ' → SlotsBut sl σ σ' → Q σ' H) → g x σ H Q) {scope : Scope} {σ : L2.St} {H : Hp} {Q : VK} (h : tD c G W (lcM src vs t mt me) σ H Q) :
    tLc (tI c G W src) g (tGx (fun _ (b a : Bool) => b = a) (c.blk scope) (fun _ _ _ _ => False) mt) (tGx (Dn c.K c.mg) (c.blk scope) (fun _ _ _ _ => False) me) vs σ H Q := by
  obtain ⟨F, ρ, R, q⟩ := h
  refine tG_bind R q fun F1 H1 ρ1 J ds s1 R1 wk q1 => ?_
  intro D' hD
  by_cases hw : noOw ρ1 vs = true
  case neg => simp only [hw] at q1; exact q1.elim
  simp only [hw, if_true] at q1
  cases e : lcL vs t mt me ds [] (wipeE ρ1 vs) with
  | bad => simp only [e] at q1; exact q1.elim
  | err x ρ' => simp only [e] at q1; exact q1.elim
  | ok ys ρf =>
  simp only [e] at q1
  have fD : F1 D' = none := R1.fh.free hD
  have hD0 : G.H0 D' = none := R1.h0_none hD
  have nD : ∀ (i : Nat) (d : D), (wipeE ρ1 vs)[i]? = some (.ow d) → (L2.wipe σ vs)[i]? ≠ some (some (.ref D')) := fun i d h q => by
    obtain ⟨a, h1, h2⟩ := (R1.wipe hw).ow i d h
    rw [q] at h1
    cases h1
    exact h2.at_.some hD
  have hz : ds.length ≤ sz := (wk 0 F1 H1 (Same.refl _) R1.fh).2.2
  refine ⟨fun i n H' => ∃ F' ρ' accV acc, Same F1 F' ∧ Rel c.K c.mg c.xt G F' H' (L2.wipe σ vs) ρ' ∧ F' D' = none ∧ H' D' = some (.lst accV) ∧ Dns c.K c.mg F' accV acc ∧ (∀ (j : Nat) (d : D), ρ'[j]? = some (.ow d) → (L2.wipe σ vs)[j]? ≠ some (some (.ref D'))) ∧
    acc.length ≤ i ∧ lcL vs t mt me (ds.drop i) acc ρ' = .ok ys ρf ∧ n = ds.length - i ∧ i ≤ ds.length,
    ⟨ds.length, F1, wipeE ρ1 vs, [], [], Same.refl _, (R1.wipe hw).own fD hD0 nD (.none hD), fD, upd_same, .nil, nD, Nat.le_refl _, e, by simp, Nat.zero_le _⟩, ?_⟩
  rintro i n H' ⟨F', ρ', accV, acc, s', R', f', h', ra, n', hl, e', rfl, hi'⟩
  obtain ⟨go, stop, _⟩ := wk i F' H' s' R'.fh
  by_cases hlt : i < ds.length
  case neg =>
    left
    have ei : i = ds.length := by omega
    subst ei
    refine ⟨stop (Nat.le_refl _), ?_⟩
    rw [List.drop_length] at e'
    cases e'
    -- frozen now
    have sF : Same F' (upd F' D' (.lst accV)) := fun a o q => by rw [upd_ne (ne_of_none q f')]; exact q
    have R2 : Rel c.K c.mg c.xt G (upd F' D' (.lst accV)) H' (L2.wipe σ vs) ρf := by
      refine ⟨R'.f0.trans sF, fun a o q => ?_, R'.kept, R'.par, fun j d h => ?_, fun j d h => ?_, R'.ne, R'.len, R'.pw, fun b hb => ?_, R'.tbs, R'.tb.updF (.lst h'), fun j x h => ?_⟩
      · by_cases ha : a = D'
        · subst ha; rw [upd_same] at q; cases q; exact h'
        · rw [upd_ne ha] at q; exact R'.fh a o q
      · obtain ⟨v, h1, h2⟩ := R'.fz j d h
        exact ⟨v, h1, h2.mono sF⟩
      · obtain ⟨a, h1, h2⟩ := R'.ow j d h
        have : a ≠ D' := fun zz => n' j d h (by rw [← zz]; exact h1)
        exact ⟨a, h1, ⟨by rw [upd_ne this]; exact h2.nf, h2.nh, h2.at_.mono sF fun _ q => q⟩⟩
      · have : b ≠ D' := fun zz => by subst zz; exact hb hD0
        rw [upd_ne this]; exact R'.fn b hb
      · obtain ⟨p, cls, d, h1, h2, h3, h4, h5⟩ := R'.xc j x h
        exact ⟨p, cls, d, h1, h2, h3, h4, h5.mono sF⟩
    exact q1 (.ref D') _ H' (s'.trans sF) (R1.back hw (s'.trans sF) R2) (.lst (.inl upd_same) (ra.mono sF) (by omega))
  right
  have hd : ds[i]? = some ds[i] := List.getElem?_eq_getElem hlt
  obtain ⟨hgo, hy⟩ := go _ hd
  refine ⟨hgo, fun H2 => ∃ F2 ρ2 accV acc, Same F1 F2 ∧ Rel c.K c.mg c.xt G F2 H2 (L2.wipe σ vs) ρ2 ∧ F2 D' = none ∧ H2 D' = some (.lst accV) ∧ Dns c.K c.mg F2 accV acc ∧ (∀ (j : Nat) (d : D), ρ2[j]? = some (.ow d) → (L2.wipe σ vs)[j]? ≠ some (some (.ref D'))) ∧
    acc.length ≤ i + 1 ∧ lcL vs t mt me (ds.drop (i + 1)) acc ρ2 = .ok ys ρf, ?_, fun x H2 y => ?_⟩
  · rintro H2 ⟨F2, ρ2, aV, ac, q2, q3, q4, q5, q6, q7, q8, q9⟩
    exact ⟨ds.length - (i + 1), by omega, F2, ρ2, aV, ac, q2, q3, q4, q5, q6, q7, q8, q9, rfl, hlt⟩
  obtain ⟨F2, ex, rx⟩ := hy x H2 y
  have R2 := R'.ext ex
  have f2 : F2 D' = none := by rw [ex.nn D' (by rw [h']; exact nofun)]; exact f'
  have h2 : H2 D' = some (.lst accV) := ex.hh _ _ h'
  rw [List.drop_eq_getElem_cons hlt] at e'
  unfold lcL at e'
  cases et : t ds[i] ρ' with
  | none => simp only [et] at e'; cases e'
  | some ρ2 =>
  simp only [et] at e'
  -- the turn's own entry
  have Rn := R2.nest
  refine kg _ F2 H2 (L2.wipe σ vs) ρ' ρ2 x _ _ Rn rx et fun σ3 R3 b3 => ⟨wipe_but hsl b3, ?_⟩
  have nOwn : ∀ p ∈ owns (L2.wipe σ vs) ρ', p.2 ≠ D' := fun ⟨j, a⟩ hm zz => by
    obtain ⟨d, q1, q2⟩ := mem_owns.mp hm
    have zz : a = D' := zz
    subst zz
    exact n' j d q1 q2
  have lf : ∀ {F4 H4 : Hp} {ρ4 : En}, Rel c.K c.mg c.xt ⟨F2, H2, owns (L2.wipe σ vs) ρ'⟩ F4 H4 σ3 ρ4 → H4 D' = some (.lst accV) ∧ F4 D' = none ∧ Same F2 F4 := fun {F4 H4 ρ4} R4 => by
    refine ⟨R4.kept D' _ h2 (fun _ q => by cases q) nOwn, ?_, R4.f0⟩
    rw [R4.fn D' (by show H2 D' ≠ none; rw [h2]; exact nofun)]
    exact f2
  have nD4 : ∀ {F4 H4 : Hp} {ρ4 : En}, Rel c.K c.mg c.xt ⟨F2, H2, owns (L2.wipe σ vs) ρ'⟩ F4 H4 σ3 ρ4 → ∀ (j : Nat) (d : D), ρ4[j]? = some (.ow d) → σ3[j]? ≠ some (some (.ref D')) := fun {F4 H4 ρ4} R4 j d hj q => by
    obtain ⟨a, h1, h3⟩ := R4.ow j d hj
    rw [q] at h1
    cases h1
    rcases h3.nh with zz | ⟨p, pm, zz⟩
    · have zz : H2 D' = none := zz
      rw [h2] at zz; cases zz
    · exact nOwn p pm zz
  -- back in the loop's own entry, the block's names gone
  have up : ∀ {F4 H4 : Hp} {ρ4 : En}, Rel c.K c.mg c.xt ⟨F2, H2, owns (L2.wipe σ vs) ρ'⟩ F4 H4 σ3 ρ4 → noOw ρ4 vs = true → Rel c.K c.mg c.xt G F4 H4 (L2.wipe σ vs) (wipeE ρ4 vs) ∧ ∀ (j : Nat) (d : D), (wipeE ρ4 vs)[j]? = some (.ow d) → (L2.wipe σ vs)[j]? ≠ some (some (.ref D')) := fun {F4 H4 ρ4} R4 hw4 => by
    have b4 := wipe_but hsl b3
    have R5 := R4.wipe hw4
    rw [b4] at R5
    refine ⟨R2.unnest R5 fun _ _ => rfl, fun j d hj q => ?_⟩
    by_cases hjv : j ∈ vs
    · rcases wipeE_in (ρ := ρ4) hjv with zz | zz <;> rw [zz] at hj <;> cases hj
    · rw [wipeE_out hjv] at hj
      refine nD4 R4 j d hj ?_
      rw [b3.2 j fun zz => hjv (hsl j zz)]
      exact q
  refine ⟨⟨F2, H2, owns (L2.wipe σ vs) ρ'⟩, F2, ρ2, R3, ?_⟩
  cases em : mt ρ2 with
  | bad => simp only [em] at e'; cases e'
  | err x ρ3 => simp only [em] at e'; cases e'
  | ok b ρ3 =>
  simp only [em] at e'
  rintro b' F4 H4 s4 R4 rfl
  obtain ⟨k1, k2, k3⟩ := lf R4
  cases b' with
  | false =>
    rw [if_neg Bool.false_ne_true]
    simp only at e'
    by_cases hw4 : noOw ρ3 vs = true
    case neg => rw [if_neg hw4] at e'; cases e'
    rw [if_pos hw4] at e'
    obtain ⟨R5, n5⟩ := up R4 hw4
    exact ⟨F4, wipeE ρ3 vs, accV, acc, (s'.trans ex.ff).trans k3, R5, k2, k1, ra.mono (ex.ff.trans k3), n5, by omega, e'⟩
  | true =>
    rw [if_pos rfl]
    simp only at e'
    refine ⟨⟨F2, H2, owns (L2.wipe σ vs) ρ'⟩, F4, ρ3, R4, ?_⟩
    cases ee : me ρ3 with
    | bad => simp only [ee] at e'; cases e'
    | err x ρ4 => simp only [ee] at e'; cases e'
    | ok yd ρ4 =>
    simp only [ee] at e'
    intro yv F5 H5 s5 R5 ry
    obtain ⟨k4, k5, k6⟩ := lf R5
    by_cases hw5 : noOw ρ4 vs = true
    case neg => rw [if_neg hw5] at e'; cases e'
    rw [if_pos hw5] at e'
    obtain ⟨R6, n6⟩ := up R5 hw5
    have hacc := ra.length
    refine ⟨accV, k4, by rw [sz_eq]; omega, F5, wipeE ρ4 vs, accV ++ [yv], acc ++ [yd], (s'.trans ex.ff).trans k6, R6.own k5 hD0 n6 (.lst k4), k5, upd_same, (ra.mono (ex.ff.trans k6)).snoc ry, n6, by simp; omega, e'⟩

theorem ed_lc {elt tg iter : Expr} {ifs : List Expr} {scope : Scope} {own : List (Str × Nat)} {sl : List Nat} {pos : Pos} {src : M (List D)} {t : Tg} {mt : M Bool} {me : M D} (hi : EI c tg iter src) (ok : blkC c.N c.sc scope own = true)
    (hg : EG (c.blk scope) tg sl t) (ht : ETs (c.blk scope) ifs mt) (he : ED (c.blk scope) elt me) (hsl : ∀ i ∈ sl, i ∈ own.map (·.2)) (hs : ∀ env x, foldedSetIterable iter env x = pure x := by intro _ _; rfl) (hc : c.hot = false := by first | rfl | assumption) :
    ED c (.ListComp elt [⟨tg, iter, ifs, 0⟩] scope pos) (lcM src (own.map (·.2)) t mt me) := fun G X W z => by
  obtain ⟨g, pg, kg⟩ := hg
  exact pe_imp (pe_lc (own := own) (z.calm hc) (by rw [z.N]; exact z.nd) (hi G X W z) (by rw [z.N, z.sc]; exact blkOk_by ok) (fun s H C cl fp => pg _ _ (cz_blk z hc s H scope cl C fp)) (fun s H C cl fp => lcT z hc ht s H C cl fp) (fun s H C cl fp => lcE z hc he s H C cl fp) (hs _)) fun σ H Q h => lc_imp (c := c) (scope := scope) hsl kg h
/-- x = [..], x a local of the def -/
theorem es_setLc {i : Nat} {y : Str} {py spos : Pos} {elt tg iter : Expr} {ifs : List Expr} {scope : Scope} {own : List (Str × Nat)} {sl : List Nat} {pos : Pos} {src : M (List D)} {t : Tg} {mt : M Bool} {me : M D} (hy : c.N[i]? = some y) (hyl : c.sc.names.lookup y = some .local) (hl : (py.line == pos.line) = true) (hk : c.sc.kind = .function)
    (hsc : (scope.names.any fun (n, k) => n == y && (k == .local || k == .cell)) = false) (hi : EI c tg iter src) (ok : blkC c.N c.sc scope own = true)
    (hg : EG (c.blk scope) tg sl t) (ht : ETs (c.blk scope) ifs mt) (he : ED (c.blk scope) elt me) (hsl : ∀ i ∈ sl, i ∈ own.map (·.2)) (hs : ∀ env x, foldedSetIterable iter env x = pure x := by intro _ _; rfl) (hc : c.hot = false := by first | rfl | assumption) :
    ES c (.Assign [.Name y py] (.ListComp elt [⟨tg, iter, ifs, 0⟩] scope pos) spos) (asgM (put i) (lcM src (own.map (·.2)) t mt me)) := fun G X W p z => by
  obtain ⟨g, pg, kg⟩ := hg
  refine ps_imp (ps_setLc (own := own) (z.calm hc) (by rw [z.N]; exact z.nd) (by rw [z.N]; exact hy) (by rw [z.sc]; exact hyl) (sw_true (by rw [z.sc]; exact hk) (by rw [z.sc]; exact hyl) hl hsc) (hi G X W z) (by rw [z.N, z.sc]; exact blkOk_by ok) (fun s H C cl fp => pg _ _ (cz_blk z hc s H scope cl C fp)) (fun s H C cl fp => lcT z hc ht s H C cl fp) (fun s H C cl fp => lcE z hc he s H C cl fp) (hs _)) fun Z σ H ⟨F, ρ, R, q⟩ => ?_
  refine lc_imp (c := c) (scope := scope) hsl kg (tG_bindS R q fun F1 H1 ρ1 x dx s1 R1 rx q1 => ?_)
  cases e : put i dx ρ1 with
  | none => simp only [e] at q1; exact q1.elim
  | some ρ2 => simp only [e] at q1; exact q1 _ F1 H1 (Same.refl _) (R1.put rx e)
theorem sw_cell {elt : Expr} {gs : List Comprehension} {scope : Scope} {pos pt : Pos} {t : Str} {l : Nat} {env : Env} (h : env.scope.names.lookup t = some .cell) : swapsWith (.ListComp elt gs scope pos) (some (.Name t pt)) l env = pure false := by
  have k : env.kindOf t = some .cell := h
  show pure (env.blockKind == .function && env.kindOf t == some .local && _ && _) = _
  rw [k]
  cases env.blockKind == .function <;> rfl
end
end DL

namespace DL
open PySem L2 PyProof.Rows
/-! ### defs -/
inductive OutF where
  | ok (d : D) (es : List D) | oko (d : D) (es : List D) | err (x : Xc) (es : List D) | bad
def ioAt : List Nat → En → Option (List D)
  | [], _ => some []
  | i :: r, ρ => match ρ[i]? with
    | some (.ow d) => (ioAt r ρ).map (d :: ·)
    | _ => none
def enc (io : List Nat) : Nat → List D → En
  | _, [] => []
  | k, d :: r => (if io.contains k then .ow d else .fz d) :: enc io (k + 1) r
def entry (io : List Nat) (ds : List D) (n : Nat) : En := enc io 0 ds ++ List.replicate (n - ds.length) .un
def fnM (np n : Nat) (io : List Nat) (body : M Fl) : List D → OutF := fun ds => if ds.length = np then (match body (entry io ds n) with
  | .ok (.rt d) ρ => (match ioAt io ρ with
    | some es => .ok d es
    | none => .bad)
  | .ok .nx ρ => (match ioAt io ρ with
    | some es => .ok .non es
    | none => .bad)
  | .ok (.ro d) ρ => (match ioAt io ρ with
    | some es => .oko d es
    | none => .bad)
  | .err x ρ => (match ioAt io ρ with
    | some es => .err x es
    | none => .bad)
  | _ => .bad) else .bad
section
variable (b : Base)
structure ArgsOk (F H : Hp) (io : List Nat) (vs : List V) (ds : List D) : Prop where
  len : vs.length = ds.length
  fz : ∀ (i : Nat) v d, i ∉ io → vs[i]? = some v → ds[i]? = some d → Dn b.K b.mg F v d
  ow : ∀ (i : Nat) d, i ∈ io → ds[i]? = some d → ∃ a, vs[i]? = some (.ref a) ∧ F a = none ∧ OwnAt b.K b.mg F H a d
  ne : ∀ (i j : Nat) (a : Addr), i ≠ j → i ∈ io → j ∈ io → vs[i]? = some (.ref a) → vs[j]? ≠ some (.ref a)
  tb : TbOk b.T F H
structure Fin (F H : Hp) (io : List Nat) (vs : List V) (es : List D) (F' H' : Hp) : Prop where
  ff : Same F F'
  fh : Same F' H'
  nn : ∀ x, H x ≠ none → F' x = F x
  kept : ∀ x o, H x = some o → (∀ ps, o ≠ .tbl ps) → (∀ i ∈ io, vs[i]? ≠ some (.ref x)) → H' x = some o
  tbs : ∀ x ps, H x = some (.tbl ps) → ∃ qs, H' x = some (.tbl qs)
  tb : TbOk b.T F' H'
  io : ∀ (k i : Nat) e, io[k]? = some i → es[k]? = some e → ∃ a, vs[i]? = some (.ref a) ∧ F' a = none ∧ OwnAt b.K b.mg F' H' a e
def spF (io : List Nat) (g : List D → OutF) : Sp := fun vs H Q E => ∃ F ds, Same F H ∧ ArgsOk b F H io vs ds ∧
  match g ds with
  | .ok d es => ∀ v F' H', Fin b F H io vs es F' H' → Dn b.K b.mg F' v d → Q v H'
  | .oko d es => ∀ a F' H', Fin b F H io vs es F' H' → F' a = none → H a = none → OwnAt b.K b.mg F' H' a d → Q (.ref a) H'
  | .err x es => ∀ cls dd F' H', Fin b F H io vs es F' H' → XRel b.mg b.K F' cls dd x → E cls dd H'
  | .bad => False
end
section
variable {b : Base}
theorem enc_length (io : List Nat) : ∀ (k : Nat) (ds : List D), (enc io k ds).length = ds.length
  | _, [] => rfl
  | k, d :: r => by unfold enc; simp [enc_length io (k + 1) r]
theorem enc_get (io : List Nat) : ∀ (k : Nat) (ds : List D) (i : Nat), (enc io k ds)[i]? = (ds[i]?).map fun d => if io.contains (k + i) then .ow d else .fz d
  | _, [], i => by simp [enc]
  | k, d :: r, 0 => by unfold enc; simp
  | k, d :: r, i + 1 => by
    unfold enc
    simp only [List.getElem?_cons_succ]
    rw [enc_get io (k + 1) r i]
    rw [show k + 1 + i = k + (i + 1) by omega]
theorem entry_get {io : List Nat} {ds : List D} {n i : Nat} {s : Sl} (h : (entry io ds n)[i]? = some s) : s = .un ∨ ∃ d, ds[i]? = some d ∧ s = if io.contains i then .ow d else .fz d := by
  unfold entry at h
  by_cases hi : i < ds.length
  · rw [List.getElem?_append_left (by rw [enc_length]; exact hi), enc_get] at h
    cases e : ds[i]? with
    | none => rw [e] at h; cases h
    | some d =>
      rw [e] at h
      simp only [Option.map_some, Nat.zero_add, Option.some.injEq] at h
      exact .inr ⟨d, rfl, h.symm⟩
  · rw [List.getElem?_append_right (by rw [enc_length]; omega), List.getElem?_replicate] at h
    split at h <;> cases h
    exact .inl rfl
theorem start_get {N : List Str} {vs : List V} {i : Nat} {v : V} (h : vs[i]? = some v) : (L2.start N vs)[i]? = some (some v) := by
  unfold L2.start
  have hi : i < vs.length := (List.getElem?_eq_some_iff.mp h).1
  rw [List.getElem?_append_left (by simpa using hi), List.getElem?_map, h]
  rfl
def paOf (io : List Nat) (vs : List V) : List (Nat × Addr) := io.filterMap fun (i : Nat) => match vs[i]? with
  | some (.ref a) => some (i, a)
  | _ => none
theorem mem_paOf {io : List Nat} {vs : List V} {i : Nat} {a : Addr} : (i, a) ∈ paOf io vs ↔ i ∈ io ∧ vs[i]? = some (.ref a) := by
  unfold paOf
  rw [List.mem_filterMap]
  constructor
  · rintro ⟨j, hj, e⟩
    split at e
    · rename_i a' h
      cases e
      exact ⟨hj, h⟩
    · cases e
  · rintro ⟨h1, h2⟩
    exact ⟨i, h1, by rw [h2]⟩
theorem ioAt_get : ∀ {io : List Nat} {ρ : En} {es : List D} {k i : Nat} {e : D}, ioAt io ρ = some es → io[k]? = some i → es[k]? = some e → ρ[i]? = some (.ow e)
  | [], _, _, k, i, e, _, h, _ => by simp at h
  | j :: r, ρ, es, k, i, e, h, h1, h2 => by
    unfold ioAt at h
    split at h
    · rename_i d hd
      cases q : ioAt r ρ with
      | none => rw [q] at h; cases h
      | some es' =>
        rw [q] at h
        cases h
        cases k with
        | zero =>
          simp at h1 h2
          subst h1 h2
          exact hd
        | succ k =>
          simp at h1 h2
          exact ioAt_get q h1 h2
    · cases h
theorem rel_entry {F H : Hp} {io : List Nat} {vs : List V} {ds : List D} {N : List Str} (s : Same F H) (a : ArgsOk b F H io vs ds) (hN : vs.length ≤ N.length) : Rel b.K b.mg ⟨b.T, none⟩ ⟨F, H, paOf io vs⟩ F H (L2.start N vs) (entry io ds N.length) where
  f0 := Same.refl _
  fh := s
  kept := fun _ _ h _ _ => h
  par := fun ⟨i, x⟩ hp => start_get (mem_paOf.mp hp).2
  fz := fun i d h => by
    rcases entry_get h with q | ⟨d', h1, h2⟩
    · cases q
    · have hi : i < vs.length := by rw [a.len]; exact (List.getElem?_eq_some_iff.mp h1).1
      have hc : io.contains i = false := by
        cases e : io.contains i with
        | false => rfl
        | true => rw [e] at h2; cases h2
      rw [hc] at h2
      cases h2
      have hni : i ∉ io := fun m => by rw [List.contains_iff_mem.mpr m] at hc; cases hc
      exact ⟨vs[i], start_get (List.getElem?_eq_getElem hi), a.fz i _ d hni (List.getElem?_eq_getElem hi) h1⟩
  ow := fun i d h => by
    rcases entry_get h with q | ⟨d', h1, h2⟩
    · cases q
    · have hc : io.contains i = true := by
        cases e : io.contains i with
        | true => rfl
        | false => rw [e] at h2; cases h2
      rw [hc] at h2
      cases h2
      have hm := List.contains_iff_mem.mp hc
      obtain ⟨x, q1, q2, q3⟩ := a.ow i d hm h1
      exact ⟨x, start_get q1, ⟨q2, .inr ⟨(i, x), mem_paOf.mpr ⟨hm, q1⟩, rfl⟩, q3⟩⟩
  ne := fun i j x d e hij h1 h2 h3 h4 => by
    have k : ∀ (i : Nat) (d : D), (entry io ds N.length)[i]? = some (.ow d) → i ∈ io ∧ ds[i]? = some d := fun i d h => by
      rcases entry_get h with q | ⟨d', q1, q2⟩
      · cases q
      · have hc : io.contains i = true := by
          cases e : io.contains i with
          | true => rfl
          | false => rw [e] at q2; cases q2
        rw [hc] at q2
        cases q2
        exact ⟨List.contains_iff_mem.mp hc, q1⟩
    obtain ⟨i1, i2⟩ := k i d h1
    obtain ⟨j1, j2⟩ := k j e h2
    obtain ⟨xi, p1, _⟩ := a.ow i d i1 i2
    obtain ⟨xj, p2, _⟩ := a.ow j e j1 j2
    have e1 := start_get (N := N) p1
    have e2 := start_get (N := N) p2
    rw [h3] at e1
    rw [h4] at e2
    cases e1
    cases e2
    exact a.ne i j x hij i1 j1 p1 p2
  len := by
    unfold L2.start entry
    simp only [List.length_append, List.length_map, List.length_replicate, enc_length, a.len]
  pw := fun ⟨i, x⟩ hp => by
    obtain ⟨h1, h2⟩ := mem_paOf.mp hp
    have hi : i < ds.length := by rw [← a.len]; exact (List.getElem?_eq_some_iff.mp h2).1
    refine ⟨ds[i], ?_⟩
    unfold entry
    rw [List.getElem?_append_left (by rw [enc_length]; exact hi), enc_get, List.getElem?_eq_getElem hi]
    simp [h1]
  fn := fun _ _ => rfl
  tbs := fun _ ps h => ⟨ps, h⟩
  tb := a.tb
  xc := fun i x h => by
    rcases entry_get h with q | ⟨d', h1, h2⟩
    · cases q
    · split at h2 <;> cases h2
theorem fin_of {F H F' H' : Hp} {io : List Nat} {vs : List V} {σ' : L2.St} {ρ' : En} {es : List D} (hio : ∀ i ∈ io, ∃ a, vs[i]? = some (.ref a)) (s : Same F F') (R : Rel b.K b.mg ⟨b.T, none⟩ ⟨F, H, paOf io vs⟩ F' H' σ' ρ') (h : ioAt io ρ' = some es) : Fin b F H io vs es F' H' where
  ff := s
  fh := R.fh
  nn := fun x hx => R.fn x hx
  tbs := fun x ps h => R.tbs x ps h
  tb := R.tb
  kept := fun x o h1 ht h2 => R.kept x o h1 ht fun ⟨i, a⟩ hp e => by
    obtain ⟨q1, q2⟩ := mem_paOf.mp hp
    have e : a = x := e
    subst e
    exact h2 i q1 q2
  io := fun k i e h1 h2 => by
    have hm : i ∈ io := List.mem_of_getElem? h1
    obtain ⟨a, ha⟩ := hio i hm
    have hρ := ioAt_get h h1 h2
    obtain ⟨a', q1, q2⟩ := R.ow i e hρ
    have q3 := R.par (i, a) (mem_paOf.mpr ⟨hm, ha⟩)
    rw [q1] at q3
    cases q3
    exact ⟨a, ha, q2.nf, q2.at_⟩
/-- a promise of a def where no text of a container is being written -/
structure FnG (P : Program) (w : World) (K : PySem.W.Frag) (mg : Str → Option Value) (base : Heap) (k : Nat) (f : Addr) (fd : FuncData) (ps : List Str) (sp : Sp) : Prop where
  len : ∀ vs H Q E, sp vs H Q E → vs.length = ps.length
  run : ∀ (A : Around) (outer : List Env) (s : Shared) (H : Hp) (args : Args) (us : List Value) (vs : List V) (Q : VK) (E : XK), Room k A → A.guards = some [] → Env0 P w K mg base A outer s H → BindsTo s fd args (ps.zip us) → Vals vs us → sp vs H Q E →
    codeAny (model P w) A (.call (.ref f) args) (CR (L2.CX P w) outer P w H s Q E) s
section
variable {X : Cx} {k : Nat} {f : Addr} {fd : FuncData} {ps : List Str} {sp : Sp}
theorem CR.end_ {CX : CXT} {E : XK} {pins : List (Addr × Obj)} {σ : L2.St} {H : Hp} {s s' : Shared} {Q : VK} {r : Result} (I : Inv X pins σ H s) (hx : PassesAt CX X σ E) (h : CR CX X.stack X.prog X.w H s Q E r s') :
    match r with
    | .ok (.ret u) => EP X pins σ Q u s'
    | .ok _ => False
    | .error e => X.xe e s' := by
  cases r with
  | error e => exact hx pins H s e s' I h
  | ok fl =>
    cases fl with
    | ret u => exact I.after h
    | next => exact h
    | brk => exact h
    | cont => exact h
theorem run_fnG {E : L2.St → XK} {pins : List (Addr × Obj)} {σ : L2.St} {H : Hp} {s : Shared} {Q : VK} {us : List Value} {vs : List V} (F : FnG X.prog X.w X.K X.mg X.base k f fd ps sp) (hr : Room k X.A) (hg : X.A.guards = some []) (hb : Binds X.K fd ps []) (hx : PassesAt (L2.CX X.prog X.w) X σ (E σ))
    (I : Inv X pins σ H s) (r : Vals vs us) (h : sp vs H Q (E σ)) : wpAny (model X.prog X.w) X.A (call (.ref f) us) (EP X pins σ Q) X.xe s := by
  have hl : us.length = ps.length := by rw [← r.length]; exact F.len _ _ _ _ h
  have b := hb s us I.kIn (by rw [List.append_nil]; exact hl)
  rw [List.append_nil] at b
  refine wpAny_call (codeAny_mono (F.run X.A X.stack s H ⟨us, []⟩ us vs Q (E σ) hr hg I.env0 b r h) fun r s' hq => ?_)
  have q := CR.end_ I hx hq
  cases r with
  | error e => exact q
  | ok fl => cases fl <;> exact q
theorem pe_callG {E : L2.St → XK} {x : Str} {p pos : Pos} {e : Expr} {es : List Expr} {t : TA} (F : FnG X.prog X.w X.K X.mg X.base k f fd ps sp) (hr : Room k X.A) (hgd : X.A.guards = some []) (hg : Gl X x) (hm : X.mg x = some (.ref f)) (hk : PySem.W.keepIn X.K (.ref f) = true) (hb : Binds X.K fd ps []) (hx : ∀ σ, PassesAt (L2.CX X.prog X.w) X σ (E σ))
    (ha : PA X (e :: es) t) (hdb : (x == ("__debug__" : Str)) = false := by decide) (he : starEach (e :: es) X.env = (false, eval e X.env) :: starEach es X.env := by rfl) (hpl : (backTo pos (starEach es X.env)).any (·.1) = false := by rfl) :
    PE X (.Call (.Name x p) (e :: es) [] pos) (tCallS sp E t) := by
  refine ⟨fun pins s σ H Q I h => ?_⟩
  refine wpAny_Call_Name_kw (ld_glob I hg hm ?_ hdb)
  refine PySem.W.callWith_K (h₀ := X.base) I.ok.mod.kin hk (thn (ha.run pos pins s σ H _ I h) fun us s1 ⟨vs, H1, I1, r, q⟩ => ⟨I1.kIn, ?_⟩) he hpl
  exact run_fnG F hr hgd hb (hx σ) I1 r q
end
/-- from the body of the def -/
theorem fnG_of {P : Program} {w : World} {K : PySem.W.Frag} {mg : Str → Option Value} {base : Heap} {x qual : Str} {st : Stmt} {f : Addr} {fd : FuncData} {N ps : List Str} {k : Nat} {sp : Sp} (F : Fun K x qual st f fd) (S : FnScope N ps (defScope st)) (len : ∀ vs H Q E, sp vs H Q E → vs.length = ps.length)
    (hbody : ∀ (cdv : Value) (A : Around) (outer : List Env) (s : Shared) (H : Hp) (vs : List V) (Q : VK) (E : XK), Room k (A.deeper (envOfC qual (defScope st) s.heap.objs.size f cdv)) → A.guards = some [] → sp vs H Q E →
      ∃ t, PSs (cxOf (L2.CX P w) P w K mg base N qual (defScope st) f cdv A outer s H E) (defBody st) t ∧ t { nx := fun _ H' => Q .non H', rt := Q } (L2.start N vs) H) : FnG P w K mg base (k + 1) f fd ps sp := by
  obtain ⟨oc, od, kV, doc, pm, an, cdv, ct, osl, rfl, lk, hcd⟩ := F.ex
  refine ⟨len, fun A outer s H args us vs Q E hr hg e0 hb r hsp => ?_⟩
  -- the promise at this surrounding alone
  have old : ∀ b o, base.get? b = some o → s.heap.get? b = some o := fun b o e => (e0.bs b o e).1
  have KX : K.In s.heap := e0.mod.kin.keeps old
  refine codeAny_call_function hr.depth (KX _ _ lk) rfl S.co S.gen rfl (PySem.W.codeRec_of KX hcd) (hb _ _ _ _ ?_)
  refine wpAny_newFunctionEnv_cells S.kind (fun ⟨n, v⟩ hy => (S.par n (List.of_mem_zip hy).1).imp id fun q => ⟨q, PySem.W.cellsFrom_some _ _ _ (.inl q)⟩) fun env he s1 x => ?_
  subst he
  refine ⟨(e0.mod.nolimit.keeps old).keeps x.toInCall.keep, codeAny_func ?_⟩
  obtain ⟨t, ht, hq⟩ := hbody cdv A outer s H vs Q E (hr.deeper _) hg hsp
  have I := inv_start (CX := L2.CX P w) (E := E) S hr.hd e0 (len _ _ _ _ hsp) r x
  refine wpAny_mono (ht.run [] s1 (L2.start N vs) H _ I hq) (fun fl s' hs => ?_) fun e s' hs => hs
  cases fl with
  | ret u => obtain ⟨v, σ', H', J, rv, q⟩ := hs; exact ⟨v, H', J.os, J.bare, J.base, J.hok, rv, q⟩
  | next => obtain ⟨σ', H', J, q⟩ := hs; exact ⟨V.non, H', J.os, J.bare, J.base, J.hok, rfl, q⟩
  | brk => obtain ⟨_, _, _, q⟩ := hs; exact q.elim
  | cont => obtain ⟨_, _, _, q⟩ := hs; exact q.elim
def stOf (b : Base) (N : List Str) (sc : Scope) (k np : Nat) : Stat := { b with N := N, sc := sc, raw := sc, k := k, np := np, hot := false, xe := none, fr := true }
theorem fn_ok {x qual : Str} {st : Stmt} {f : Addr} {fd : FuncData} {N ps : List Str} {k : Nat} {io : List Nat} {m : M Fl} (Fn : Fun b.K x qual st f fd) (S : FnScope N ps (defScope st)) (hio : ∀ i ∈ io, i < ps.length)
    (h : ESs (stOf b N (defScope st) k ps.length) (defBody st) m) : FnG b.P b.w b.K b.mg b.base (k + 1) f fd ps (spF b io (fnM ps.length N.length io m)) := by
  have hlen : ∀ vs H Q E, spF b io (fnM ps.length N.length io m) vs H Q E → vs.length = ps.length := by
    rintro vs H Q E ⟨F, ds, s, a, q⟩
    by_cases hl : ds.length = ps.length
    · rw [a.len]; exact hl
    · unfold fnM at q
      rw [if_neg hl] at q
      exact q.elim
  refine fnG_of Fn S hlen (fun cdv A outer s H vs Q E hr hgd hq => ?_)
  have hvl := hlen _ _ _ _ hq
  obtain ⟨F, ds, sm, a, q⟩ := hq
  have hdl : ds.length = ps.length := by rw [← a.len]; exact hvl
  have hN : vs.length ≤ N.length := by
    have := congrArg List.length S.pre
    rw [List.length_take] at this
    omega
  have R := rel_entry (N := N) sm a hN
  have hpa : PaOk (stOf b N (defScope st) k ps.length) ⟨F, H, paOf io vs⟩ := fun ⟨i, x⟩ hp => hio i (mem_paOf (vs := vs).mp hp).1
  have hv : ∀ i ∈ io, ∃ x, vs[i]? = some (.ref x) := fun i hi => by
    have hlt : i < ds.length := by rw [hdl]; exact hio i hi
    obtain ⟨x, q1, _⟩ := a.ow i _ hi (List.getElem?_eq_getElem hlt)
    exact ⟨x, q1⟩
  refine ⟨tS (stOf b N (defScope st) k ps.length) ⟨F, H, paOf io vs⟩ (fun cls d _ H => E cls d H) m, h _ _ _ hpa ?_, F, _, R, ?_⟩
  · exact { P := rfl, w := rfl, K := rfl, mg := rfl, base := rfl, N := rfl, sc := rfl, nd := S.nd, fnc := fun _ _ => rfl, calm := fun _ => rfl, lm := (fun _ _ e => nomatch e), room := L2H.roomH_of hr, hd := fun _ => hr.hd, xp := (fun _ q => nomatch q), xh := fun _ => rfl, gd := hgd, fr := fun _ => ⟨rfl, rfl⟩, tk := takes_of rfl rfl rfl rfl, po := passes_of rfl }
  · unfold fnM at q
    rw [if_pos hdl] at q
    cases e : m (entry io ds N.length) with
    | bad => rw [e] at q; exact q.elim
    | err x ρ' =>
      rw [e] at q
      cases e2 : ioAt io ρ' with
      | none => simp only [e2] at q
      | some es =>
        simp only [e2] at q
        exact fun σ' F' H' cls d s' R' xr => q cls d F' H' (fin_of hv s' R' e2) xr
    | ok fl ρ' =>
      rw [e] at q
      cases fl with
      | bk => exact q.elim
      | ct => exact q.elim
      | nx =>
        cases e2 : ioAt io ρ' with
        | none => simp only [e2] at q
        | some es =>
          simp only [e2] at q
          exact fun σ' F' H' s' R' => q .non F' H' (fin_of hv s' R' e2) .non
      | rt d =>
        cases e2 : ioAt io ρ' with
        | none => simp only [e2] at q
        | some es =>
          simp only [e2] at q
          exact fun v σ' F' H' s' R' rv => q v F' H' (fin_of hv s' R' e2) rv
      | ro d =>
        cases e2 : ioAt io ρ' with
        | none => simp only [e2] at q
        | some es =>
          simp only [e2] at q
          intro x σ' F' H' s' R' ow no
          refine q x F' H' (fin_of hv s' R' e2) ow.nf ?_ ow.at_
          rcases ow.nh with z | ⟨⟨i, y⟩, hp, z⟩
          · exact z
          · exfalso
            have z : y = x := z
            subst z
            obtain ⟨d', hd'⟩ := R'.pw _ hp
            exact no i d' hd' (R'.par _ hp)
end
end DL

namespace DL
open PySem L2
section
variable {c : Stat}
/-! ### one of the frame's own things is changed -/
theorem Rel.chg {G : Ent} {F H F' H' : Hp} {σ : L2.St} {ρ : En} {i : Nat} {a : Addr} {d d' : D} (R : Rel c.K c.mg c.xt G F H σ ρ) (hρ : ρ[i]? = some (.ow d)) (hσ : σ[i]? = some (some (.ref a))) (ff : Same F F') (fh : Same F' H')
    (nn : ∀ x, H x ≠ none → F' x = F x) (kp : ∀ x o, x ≠ a → (∀ ps, o ≠ .tbl ps) → H x = some o → H' x = some o) (kt : ∀ x ps, H x = some (.tbl ps) → ∃ qs, H' x = some (.tbl qs)) (tt : TbOk c.T F' H') (ow : OwnAt c.K c.mg F' H' a d') : Rel c.K c.mg c.xt G F' H' σ (ρ.set i (.ow d')) := by
  have hl : i < ρ.length := (List.getElem?_eq_some_iff.mp hρ).1
  obtain ⟨a', e1, ow1⟩ := R.ow i d hρ
  rw [hσ] at e1
  cases e1
  have back : ∀ (j : Nat) (e : D), (ρ.set i (.ow d'))[j]? = some (.ow e) → (j = i ∧ e = d') ∨ (j ≠ i ∧ ρ[j]? = some (.ow e)) := fun j e q => by
    by_cases hj : j = i
    · subst hj
      rw [List.getElem?_set_self hl] at q
      cases q
      exact .inl ⟨rfl, rfl⟩
    · rw [List.getElem?_set_ne (Ne.symm hj)] at q
      exact .inr ⟨hj, q⟩
  have was : ∀ (j : Nat) (e : D), (ρ.set i (.ow d'))[j]? = some (.ow e) → ∃ e', ρ[j]? = some (.ow e') := fun j e q => by
    rcases back j e q with ⟨rfl, _⟩ | ⟨_, q⟩
    · exact ⟨d, hρ⟩
    · exact ⟨e, q⟩
  refine ⟨R.f0.trans ff, fh, fun b o h1 ht h2 => ?_, R.par, fun j e q => ?_, fun j e q => ?_, fun j k x e f hjk q1 q2 q3 => ?_, (by rw [List.length_set]; exact R.len), fun p hp => ?_, fun b hb => ?_, fun b ps h => ?_, tt, ?_⟩
  · refine kp b o (fun z => ?_) ht (R.kept b o h1 ht h2)
    subst z
    rcases ow1.nh with z | ⟨p, pm, z⟩
    · rw [h1] at z; cases z
    · exact h2 p pm z
  · have hj : j ≠ i := fun z => by subst z; rw [List.getElem?_set_self hl] at q; cases q
    rw [List.getElem?_set_ne (Ne.symm hj)] at q
    obtain ⟨v, h1, h2⟩ := R.fz j e q
    exact ⟨v, h1, h2.mono ff⟩
  · rcases back j e q with ⟨rfl, rfl⟩ | ⟨hj, q⟩
    · exact ⟨a, hσ, ⟨by rw [nn a ow1.at_.some]; exact ow1.nf, ow1.nh, ow⟩⟩
    · obtain ⟨x, h1, h2⟩ := R.ow j e q
      have hx : x ≠ a := fun z => R.ne i j a d e (Ne.symm hj) hρ q hσ (by rw [← z]; exact h1)
      exact ⟨x, h1, ⟨by rw [nn x h2.at_.some]; exact h2.nf, h2.nh, h2.at_.mono' ff fun o ho z => kp x o hx ho z⟩⟩
  · obtain ⟨e', w1⟩ := was j e q1
    obtain ⟨f', w2⟩ := was k f q2
    exact R.ne j k x e' f' hjk w1 w2 q3
  · obtain ⟨e, q⟩ := R.pw p hp
    by_cases hj : p.1 = i
    · exact ⟨d', by rw [hj]; exact List.getElem?_set_self hl⟩
    · exact ⟨e, by rw [List.getElem?_set_ne (Ne.symm hj)]; exact q⟩
  · rw [nn b (R.h_some hb)]; exact R.fn b hb
  · obtain ⟨qs, q⟩ := R.tbs b ps h
    exact kt b qs q
  · refine xcMono' ff (R.xcSet (i := i) (s := .ow d') (fun x q => by cases q) fun _ _ => rfl)
/-- behind a call that changes nothing of the frame -/
theorem Rel.fin {G : Ent} {F H F' H' : Hp} {σ : L2.St} {ρ : En} {vs : List V} {es : List D} (R : Rel c.K c.mg c.xt G F H σ ρ) (f : Fin c.toBase F H [] vs es F' H') : Rel c.K c.mg c.xt G F' H' σ ρ where
  f0 := R.f0.trans f.ff
  fh := f.fh
  kept := fun b o h1 ht h2 => f.kept b o (R.kept b o h1 ht h2) ht fun _ z => (nomatch z)
  par := R.par
  fz := fun i d h => let ⟨v, h1, h2⟩ := R.fz i d h; ⟨v, h1, h2.mono f.ff⟩
  ow := fun i d h => let ⟨a, h1, h2⟩ := R.ow i d h; ⟨a, h1, ⟨by rw [f.nn _ h2.at_.some]; exact h2.nf, h2.nh, h2.at_.mono' f.ff fun o ho q => f.kept a o q ho fun _ z => (nomatch z)⟩⟩
  ne := R.ne
  len := R.len
  pw := R.pw
  fn := fun b h => by rw [f.nn b (R.h_some h)]; exact R.fn b h
  tbs := fun b ps h => let ⟨qs, q⟩ := R.tbs b ps h; f.tbs b qs q
  tb := f.tb
  xc := xcMono' f.ff R.xc
theorem args_pure {b : Base} {F H : Hp} {vs : List V} {ds : List D} (r : Dns b.K b.mg F vs ds) (tb : TbOk b.T F H) : ArgsOk b F H [] vs ds :=
  ⟨r.length, fun i v d _ h1 h2 => by
    obtain ⟨v', q1, q2⟩ := r.get h2
    rw [h1] at q1; cases q1
    exact q2, fun _ _ z => (nomatch z), fun _ _ _ _ z => (nomatch z), tb⟩
/-! ### calls -/
def cal (g : List D → OutF) (a : M (List D)) : M D := bnd a fun ds ρ => match g ds with
  | .ok d _ => .ok d ρ
  | .err x _ => .err x ρ
  | _ => .bad
/-- the first argument is the frame's own thing in slot i -/
def isOw (i : Nat) (ρ : En) : Bool := match ρ[i]? with
  | some (.ow _) => true
  | _ => false
def own {α : Type} (i : Nat) (m : M α) : M α := fun ρ => if isOw i ρ then m ρ else .bad
theorem isOw_of {i : Nat} {ρ : En} (h : isOw i ρ = true) : ∃ d, ρ[i]? = some (.ow d) := by
  unfold isOw at h
  split at h
  · rename_i d e; exact ⟨d, e⟩
  · cases h
def calR (g : List D → OutF) (i : Nat) (a : M (List D)) : M D := own i (bnd a fun ds ρ => match ρ[i]? with
  | some (.ow j) => (match g (j :: ds) with
    | .ok d [e] => .ok d (ρ.set i (.ow e))
    | .err x [e] => .err x (ρ.set i (.ow e))
    | _ => .bad)
  | _ => .bad)
structure Cal (b : Base) (k : Nat) (x : Str) (io : List Nat) (g : List D → OutF) : Prop where
  ex : ∃ f fd ps, FnG b.P b.w b.K b.mg b.base k f fd ps (spF b io g) ∧ b.mg x = some (.ref f) ∧ PySem.W.keepIn b.K (.ref f) = true ∧ Binds b.K fd ps []
theorem post_cal {G : Ent} {W : WX} {σ : L2.St} {H F : Hp} {ρ : En} {vs : List V} {ds : List D} {g : List D → OutF} {Q : VK} (R : Rel c.K c.mg c.xt G F H σ ρ) (r : Dns c.K c.mg F vs ds)
    (q : Post (Dn c.K c.mg) c G W F σ (match g ds with | .ok d _ => .ok d ρ | .err x _ => .err x ρ | _ => .bad : Out D) Q) : spF c.toBase [] g vs H Q (WE W σ) := by
  refine ⟨F, ds, R.fh, args_pure r R.tb, ?_⟩
  cases e : g ds with
  | bad => rw [e] at q; exact q
  | oko d es => rw [e] at q; exact q.elim
  | ok d es => rw [e] at q; exact fun v F' H' f rv => q v F' H' f.ff (R.fin f) rv
  | err x es => rw [e] at q; exact fun cls dd F' H' f xr => q F' H' cls dd f.ff (R.fin f) xr
theorem ed_cal {k : Nat} {x : Str} {g : List D → OutF} {e : Expr} {es : List Expr} {f : M (List D)} {p pos : Pos} (cl : Cal c.toBase k x [] g) (hk : k ≤ c.k) (hg : Gn c x) (ha : EA c (e :: es) f) (hdb : (x == ("__debug__" : Str)) = false := by decide)
    (he : ∀ env, starEach (e :: es) env = (false, eval e env) :: starEach es env := by intro _; rfl) (hpl : ∀ env, (backTo pos (starEach es env)).any (·.1) = false := by intro _; rfl) (hc : c.hot = false := by first | rfl | assumption) : ED c (.Call (.Name x p) (e :: es) [] pos) (cal g f) := fun G X W z => by
  obtain ⟨fa, fd, ps, F, hm, kp, hb⟩ := cl.ex
  have F' : FnG X.prog X.w X.K X.mg X.base k fa fd ps (spF c.toBase [] g) := by rw [z.P, z.w, z.K, z.mg, z.base]; exact F
  refine pe_imp (pe_callG F' ((z.cold hc).mono hk) z.gd (hg.gl z) (by rw [z.mg]; exact hm) (by rw [z.K]; exact kp) (by rw [z.K]; exact hb) (fun σ => passAt z.tk σ) (ha G X W z) hdb (he _) (hpl _)) fun σ H Q ⟨F0, ρ, R, q⟩ => ?_
  refine tG_bind R q fun F1 H1 ρ1 vs ds s1 R1 rx q1 => ?_
  exact post_cal R1 rx q1
theorem post_calR {G : Ent} {W : WX} {σ : L2.St} {H F : Hp} {ρ : En} {vs : List V} {ds : List D} {g : List D → OutF} {Q : VK} {i : Nat} {v0 : V} (R : Rel c.K c.mg c.xt G F H σ ρ) (r : Dns c.K c.mg F vs ds) (h0 : σ[i]? = some (some v0))
    (q : Post (Dn c.K c.mg) c G W F σ (match ρ[i]? with
      | some (.ow j) => (match g (j :: ds) with
        | .ok d [e] => .ok d (ρ.set i (.ow e))
        | .err x [e] => .err x (ρ.set i (.ow e))
        | _ => .bad)
      | _ => .bad : Out D) Q) : spF c.toBase [0] g (v0 :: vs) H Q (WE W σ) := by
  cases e0 : ρ[i]? with
  | none => rw [e0] at q; exact q.elim
  | some s =>
  rw [e0] at q
  cases s <;> try exact q.elim
  rename_i j
  obtain ⟨a, h1, h2⟩ := R.ow i j e0
  rw [h0] at h1
  cases h1
  refine ⟨F, j :: ds, R.fh, ⟨by simp [r.length], fun k v d hk q1 q2 => ?_, fun k d hk q1 => ?_, fun k l x hkl hk hl => ?_, R.tb⟩, ?_⟩
  · cases k with
    | zero => exact absurd List.mem_cons_self hk
    | succ k =>
      simp at q1 q2
      obtain ⟨v', p1, p2⟩ := r.get q2
      rw [q1] at p1; cases p1
      exact p2
  · have hk0 : k = 0 := by simpa using hk
    subst hk0
    simp at q1
    subst q1
    exact ⟨a, rfl, h2.nf, h2.at_⟩
  · have hk0 : k = 0 := by simpa using hk
    have hl0 : l = 0 := by simpa using hl
    omega
  · have upd : ∀ {es : List D} {e : D} {F' H' : Hp}, es = [e] → Fin c.toBase F H [0] (.ref a :: vs) es F' H' → Rel c.K c.mg c.xt G F' H' σ (ρ.set i (.ow e)) := fun {es e F' H'} he f => by
      subst he
      obtain ⟨a', q1, q2, q3⟩ := f.io 0 0 e rfl rfl
      simp at q1
      subst q1
      exact R.chg e0 h0 f.ff f.fh f.nn (fun x o hx ht hh => f.kept x o hh ht fun k hk zz => by
        have hk0 : k = 0 := by simpa using hk
        subst hk0
        simp at zz
        exact hx zz.symm) f.tbs f.tb q3
    cases e : g (j :: ds) with
    | bad => simp only [e] at q; exact q
    | oko d es => simp only [e] at q; exact q.elim
    | ok d es =>
      simp only [e] at q
      intro v F' H' f rv
      match es, q with
      | [e'], q => exact q v F' H' f.ff (upd rfl f) rv
    | err x es =>
      simp only [e] at q
      intro cls dd F' H' f xr
      match es, q with
      | [e'], q => exact q F' H' cls dd f.ff (upd rfl f) xr
theorem ed_calR {k : Nat} {x y : Str} {g : List D → OutF} {i : Nat} {es : List Expr} {f : M (List D)} {p p2 pos : Pos} (cl : Cal c.toBase k x [0] g) (hk : k ≤ c.k) (hg : Gn c x) (hN : c.N[i]? = some y) (hv : Vis c.sc y) (ha : EA c es f) (hdb : (x == ("__debug__" : Str)) = false := by decide)
    (hd : (y == ("__debug__" : Str)) = false := by decide) (hcd : (y == ("__classdict__" : Str)) = false := by decide)
    (hpl : ∀ env, (backTo pos (starEach es env)).any (·.1) = false := by intro _; rfl) (hc : c.hot = false := by first | rfl | assumption) : ED c (.Call (.Name x p) (.Name y p2 :: es) [] pos) (calR g i f) := fun G X W z => by
  obtain ⟨fa, fd, ps, F, hm, kp, hb⟩ := cl.ex
  have F' : FnG X.prog X.w X.K X.mg X.base k fa fd ps (spF c.toBase [0] g) := by rw [z.P, z.w, z.K, z.mg, z.base]; exact F
  have pv : PE X (.Name y p2) (tVar i) := pe_var (i := i) (by rw [z.N]; exact hN) (by rw [z.sc]; exact hv) hd hcd
  refine pe_imp (pe_callG F' ((z.cold hc).mono hk) z.gd (hg.gl z) (by rw [z.mg]; exact hm) (by rw [z.K]; exact kp) (by rw [z.K]; exact hb) (fun σ => passAt z.tk σ) (pa_cons pv (ha G X W z)) hdb rfl (hpl _)) fun σ H Q ⟨F0, ρ, R, q⟩ => ?_
  unfold calR own at q
  split at q
  case isFalse => exact q.elim
  rename_i ho
  obtain ⟨d0, ho⟩ := isOw_of ho
  obtain ⟨a, h0, _⟩ := R.ow i d0 ho
  refine ⟨_, h0, ?_⟩
  refine tG_bind R q fun F1 H1 ρ1 vs ds s1 R1 rx q1 => ?_
  exact post_calR R1 rx h0 q1
/-! ### the frame's own lists and dicts -/
/-- own list: len, item -/
def lenO (i : Nat) : M D := fun ρ => match ρ[i]? with
  | some (.ow (.lst ds)) => .ok (.int ds.length) ρ
  | _ => .bad
theorem ed_lenO {i : Nat} {x y : Str} {p p2 pos : Pos} (hx : x = "len") (hg : Gn c x) (hm : c.mg x = none) (hN : c.N[i]? = some y) (hv : Vis c.sc y) (hd : (y == ("__debug__" : Str)) = false := by decide) (hcd : (y == ("__classdict__" : Str)) = false := by decide) :
    ED c (.Call (.Name x p) [.Name y p2] [] pos) (lenO i) := fun G X W z => by
  subst hx
  have pv : PE X (.Name y p2) (tVar i) := pe_var (i := i) (by rw [z.N]; exact hN) (by rw [z.sc]; exact hv) hd hcd
  refine pe_imp (pe_callB call_len (hg.gl z) (by rw [z.mg]; exact hm) PySem.boot_len (pa_cons pv pa_nil)) fun σ H Q ⟨F, ρ, R, q⟩ => ?_
  unfold lenO at q
  split at q
  · rename_i ds e
    obtain ⟨a, h0, ow⟩ := R.ow i _ e
    obtain ⟨vs, h1, h2⟩ := ow.at_
    refine ⟨_, h0, _, _, rfl, .inl ⟨vs, .inl (.inl h1), rfl⟩, ?_⟩
    rw [h2.length]
    exact q _ F H (Same.refl _) R (.int _)
  · exact q.elim
/-- x[e], x an own list (or dict) -/
def ixO (i : Nat) (a : M D) : M D := own i (bnd a fun k ρ => match ρ[i]? with
  | some (.ow (.lst ds)) => (match k with
    | .int n => (match atI ds n with
      | some d => .ok d ρ
      | none => .bad)
    | _ => .bad)
  | some (.ow (.dct kvs)) => (match asK k with
    | some k => (match lookK k kvs with
      | some d => .ok d ρ
      | none => .bad)
    | none => .bad)
  | _ => .bad)
theorem ed_ixO {i : Nat} {y : Str} {b : Expr} {f : M D} {p2 pos : Pos} (hN : c.N[i]? = some y) (hv : Vis c.sc y) (hb : ED c b f) (hs : PlainIx b := by intro _ _; rfl) (hd : (y == ("__debug__" : Str)) = false := by decide) (hcd : (y == ("__classdict__" : Str)) = false := by decide) :
    ED c (.Subscript (.Name y p2) b pos) (ixO i f) := fun G X W z => by
  have pv : PE X (.Name y p2) (tVar i) := pe_var (i := i) (by rw [z.N]; exact hN) (by rw [z.sc]; exact hv) hd hcd
  refine pe_imp (pe_ix (IxR.or ix_list (ix_dict (by have := z.room.units; omega))) pv (hb G X W z) hs) fun σ H Q ⟨F, ρ, R, q⟩ => ?_
  unfold ixO own at q
  split at q
  case isFalse => exact q.elim
  rename_i ho
  obtain ⟨d0, ho⟩ := isOw_of ho
  obtain ⟨a, h0, _⟩ := R.ow i d0 ho
  refine ⟨_, h0, ?_⟩
  refine tG_bind R q fun F1 H1 ρ1 k dk s1 R1 rk q1 => ?_
  split at q1
  · rename_i ds e1
    obtain ⟨a1, h1, ow⟩ := R1.ow i _ e1
    rw [h0] at h1; cases h1
    obtain ⟨vs, h2, h3⟩ := ow.at_
    split at q1
    · rename_i n
      cases rk
      cases e2 : atI ds n with
      | none => simp only [e2] at q1; exact q1.elim
      | some d =>
        simp only [e2] at q1
        obtain ⟨v, p1, p2⟩ := atI_dns h3 e2
        exact .inl ⟨_, _, _, v, rfl, rfl, .inl (.inl h2), p1, q1 v F1 H1 (Same.refl _) R1 p2⟩
    · exact q1.elim
  · rename_i kvs e1
    obtain ⟨a1, h1, ow⟩ := R1.ow i _ e1
    rw [h0] at h1; cases h1
    obtain ⟨kvV, h2, h3⟩ := ow.at_
    cases hk : asK dk with
    | none => simp only [hk] at q1; exact q1.elim
    | some k' =>
      simp only [hk] at q1
      rcases dkv_look k' h3 with ⟨p1, p2⟩ | ⟨d2, v2, p1, p2, p3⟩
      · simp only [p1] at q1; exact q1.elim
      · simp only [p1] at q1
        exact .inr ⟨_, v2, rfl, .inl ⟨_, _, .inl h2, asK_V rk hk, p2.symm⟩, q1 v2 F1 H1 (Same.refl _) R1 p3⟩
  · exact q1.elim
theorem Rel.chgU {G : Ent} {F H : Hp} {σ : L2.St} {ρ : En} {i : Nat} {a : Addr} {d d' : D} {o : HO} (R : Rel c.K c.mg c.xt G F H σ ρ) (hρ : ρ[i]? = some (.ow d)) (hσ : σ[i]? = some (some (.ref a))) (nf : F a = none) (ow : OwnAt c.K c.mg F (upd H a o) a d') :
    Rel c.K c.mg c.xt G F (upd H a o) σ (ρ.set i (.ow d')) := by
  obtain ⟨a', e1, ow1⟩ := R.ow i d hρ
  rw [hσ] at e1; cases e1
  have pl := ow1.at_.plain
  refine R.chg hρ hσ (Same.refl _) (fun x u e => by rw [upd_ne (ne_of_none e nf)]; exact R.fh x u e) (fun _ _ => rfl) (fun x u hx _ e => by rw [upd_ne hx]; exact e) (fun x ps e => ⟨ps, ?_⟩) (R.tb.upd pl) ow
  rw [upd_ne fun z => pl.t ps (by rw [← z]; exact e)]; exact e
theorem Rel.own_lst {G : Ent} {F H : Hp} {σ : L2.St} {ρ : En} {i : Nat} {a : Addr} {d : D} {vs : List V} {ds : List D} (R : Rel c.K c.mg c.xt G F H σ ρ) (hρ : ρ[i]? = some (.ow d)) (hσ : σ[i]? = some (some (.ref a))) (nf : F a = none) (r : Dns c.K c.mg F vs ds) :
    Rel c.K c.mg c.xt G F (upd H a (.lst vs)) σ (ρ.set i (.ow (.lst ds))) :=
  R.chgU hρ hσ nf ⟨vs, upd_same, r⟩
def isOwL (i : Nat) (ρ : En) : Bool := match ρ[i]? with
  | some (.ow (.lst _)) => true
  | _ => false
def ownL {α : Type} (i : Nat) (m : M α) : M α := fun ρ => if isOwL i ρ then m ρ else .bad
theorem isOwL_of {i : Nat} {ρ : En} (h : isOwL i ρ = true) : ∃ d, ρ[i]? = some (.ow (.lst d)) := by
  unfold isOwL at h
  split at h
  · rename_i d e; exact ⟨d, e⟩
  · cases h
/-- x.append(e) -/
def appO (i : Nat) (a : M D) : M D := ownL i (bnd a fun d ρ => match ρ[i]? with
  | some (.ow (.lst ds)) => if ds.length < sz then .ok .non (ρ.set i (.ow (.lst (ds ++ [d])))) else .bad
  | _ => .bad)
theorem ed_appO {i : Nat} {y : Str} {b : Expr} {f : M D} {apos cpos p2 : Pos} (hN : c.N[i]? = some y) (hv : Vis c.sc y) (hb : ED c b f) (hd : (y == ("__debug__" : Str)) = false := by decide) (hcd : (y == ("__classdict__" : Str)) = false := by decide)
    (hst : ∀ env, starEach [b] env = [(false, eval b env)] := by intro _; rfl) (hl : (apos.endLine == cpos.line) = true := by rfl) : ED c (.Call (.Attribute (.Name y p2) "append" apos) [b] [] cpos) (appO i f) := fun G X W z => by
  have pv : PE X (.Name y p2) (tVar i) := pe_var (i := i) (by rw [z.N]; exact hN) (by rw [z.sc]; exact hv) hd hcd
  refine pe_imp (pe_bm PySem.F.plainAttrs_list PySem.F.slot_list_append PySem.F.type_list_append mt_append pv (pa_cons (hb G X W z) pa_nil (hst _)) rfl (by rw [hst]; rfl) hl (hst _) rfl) fun σ H Q ⟨F, ρ, R, q⟩ => ?_
  unfold appO ownL at q
  split at q
  case isFalse => exact q.elim
  rename_i ho
  obtain ⟨d0, ho⟩ := isOwL_of ho
  obtain ⟨a, h0, ow0⟩ := R.ow i _ ho
  obtain ⟨vs0, h20, _⟩ := ow0.at_
  refine ⟨_, h0, .inl ⟨rfl, _, .inl (.inl h20)⟩, ?_⟩
  refine tG_bind R q fun F1 H1 ρ1 k dk s1 R1 rk q1 => ?_
  split at q1
  · rename_i ds e1
    obtain ⟨a1, h1, ow⟩ := R1.ow i _ e1
    rw [h0] at h1; cases h1
    obtain ⟨vs, h2, h3⟩ := ow.at_
    split at q1
    · rename_i hlen
      refine ⟨_, vs, _, rfl, rfl, h2, by rw [sz_eq, h3.length]; exact hlen, ?_⟩
      exact q1 .non F1 _ (Same.refl _) (R1.own_lst e1 h0 ow.nf (h3.snoc rk)) .non
    · exact q1.elim
  · exact q1.elim
/-- x.pop(e) -/
def popO (i : Nat) (a : M D) : M D := ownL i (bnd a fun k ρ => match ρ[i]?, k with
  | some (.ow (.lst ds)), .int n => if 0 ≤ n ∧ n < 2 ^ 62 then (match ds[n.toNat]? with
    | some d => .ok d (ρ.set i (.ow (.lst (ds.eraseIdx n.toNat))))
    | none => .bad) else .bad
  | _, _ => .bad)
theorem ed_popO {i : Nat} {y : Str} {b : Expr} {f : M D} {apos cpos p2 : Pos} (hN : c.N[i]? = some y) (hv : Vis c.sc y) (hb : ED c b f) (hd : (y == ("__debug__" : Str)) = false := by decide) (hcd : (y == ("__classdict__" : Str)) = false := by decide)
    (hst : ∀ env, starEach [b] env = [(false, eval b env)] := by intro _; rfl) (hl : (apos.endLine == cpos.line) = true := by rfl) : ED c (.Call (.Attribute (.Name y p2) "pop" apos) [b] [] cpos) (popO i f) := fun G X W z => by
  have pv : PE X (.Name y p2) (tVar i) := pe_var (i := i) (by rw [z.N]; exact hN) (by rw [z.sc]; exact hv) hd hcd
  refine pe_imp (pe_bm PySem.F.plainAttrs_list PySem.F.slot_list_pop PySem.F.type_list_pop mt_popAt pv (pa_cons (hb G X W z) pa_nil (hst _)) rfl (by rw [hst]; rfl) hl (hst _) rfl) fun σ H Q ⟨F, ρ, R, q⟩ => ?_
  unfold popO ownL at q
  split at q
  case isFalse => exact q.elim
  rename_i ho
  obtain ⟨d0, ho⟩ := isOwL_of ho
  obtain ⟨a, h0, ow0⟩ := R.ow i _ ho
  obtain ⟨vs0, h20, _⟩ := ow0.at_
  refine ⟨_, h0, .inl ⟨rfl, _, .inl (.inl h20)⟩, ?_⟩
  refine tG_bind R q fun F1 H1 ρ1 k dk s1 R1 rk q1 => ?_
  split at q1
  · rename_i ds n e1
    obtain ⟨a1, h1, ow⟩ := R1.ow i _ e1
    rw [h0] at h1; cases h1
    obtain ⟨vs, h2, h3⟩ := ow.at_
    cases rk
    split at q1
    case isFalse => exact q1.elim
    rename_i hn
    cases e2 : ds[n.toNat]? with
    | none => simp only [e2] at q1; exact q1.elim
    | some d =>
      simp only [e2] at q1
      obtain ⟨v, p1, p2⟩ := h3.get e2
      have hlt : n.toNat < vs.length := (List.getElem?_eq_some_iff.mp p1).1
      refine ⟨_, vs, n, n.toNat, v, rfl, rfl, h2, by omega, by omega, seqIndex_of hn.1 (by omega), p1, ?_⟩
      exact q1 v F1 _ (Same.refl _) (R1.own_lst e1 h0 ow.nf (h3.eraseIdx _)) p2
  · exact q1.elim
/-- x[k] = e, x an own list or dict -/
def putK' (k : DK) (d : D) (kvs : List (DK × D)) : List (DK × D) := if (kvs.any fun kv => decide (kv.1 = k)) = true then kvs.map fun kv => if kv.1 = k then (kv.1, d) else kv else kvs ++ [(k, d)]
def stO (i : Nat) (a k : M D) : M Fl := own i (bnd a fun d => own i (bnd k fun k ρ => match ρ[i]? with
  | some (.ow (.lst ds)) => (match k with
    | .int n => (match ixN ds.length n with
      | some j => .ok .nx (ρ.set i (.ow (.lst (ds.set j d))))
      | none => .bad)
    | _ => .bad)
  | some (.ow (.dct kvs)) => (match asK k with
    | some k => if kvs.length < sz then .ok .nx (ρ.set i (.ow (.dct (putK' k d kvs)))) else .bad
    | none => .bad)
  | _ => .bad))
theorem PSet.or {X : Cx} {r r' : TSet} (h : PSet X r) (h' : PSet X r') : PSet X (fun o i v H Q => r o i v H Q ∨ r' o i v H Q) := fun pins s σ H o i v ov iv u Q I ro ri rv q => by
  rcases q with q | q
  · exact h pins s σ H o i v ov iv u Q I ro ri rv q
  · exact h' pins s σ H o i v ov iv u Q I ro ri rv q
def rSetD' : TSet := fun o i v H Q => ∃ a H', o = .ref a ∧ DPut H a i v H' ∧ Q H'
theorem set_dict' {X : Cx} (hu : X.A.units + 1 < cLine) : PSet X rSetD' := set_dict hu
theorem key_dec (j k : DK) : decide (j.key = k.key) = decide (j = k) := by
  by_cases h : j = k
  · subst h; simp
  · have : j.key ≠ k.key := fun q => h (key_inj q)
    simp [h, this]
theorem dkv_any {K : PySem.W.Frag} {mg : Str → Option Value} {F : Hp} {k : DK} : ∀ {kvs : List (Key × V)} {kds : List (DK × D)}, Dkv K mg F kvs kds → (kvs.any fun kv => decide (kv.1 = k.key)) = kds.any fun kv => decide (kv.1 = k)
  | _, _, .nil => rfl
  | _, _, .cons _ _ r => by simp only [List.any_cons, key_dec, dkv_any r]
theorem dkv_map {K : PySem.W.Frag} {mg : Str → Option Value} {F : Hp} {k : DK} {v : V} {d : D} (h : Dn K mg F v d) : ∀ {kvs : List (Key × V)} {kds : List (DK × D)}, Dkv K mg F kvs kds → Dkv K mg F (kvs.map fun kv => if kv.1 = k.key then (kv.1, v) else kv) (kds.map fun kv => if kv.1 = k then (kv.1, d) else kv)
  | _, _, .nil => .nil
  | _, _, @Dkv.cons _ _ _ j w e vs ds ok q r => by
    by_cases hj : j = k
    · subst hj
      simp only [List.map_cons, if_true]
      exact .cons ok h (dkv_map h r)
    · have hk : j.key ≠ k.key := fun q => hj (key_inj q)
      simp only [List.map_cons, if_neg hj, if_neg hk]
      exact .cons ok q (dkv_map h r)
theorem dkv_snoc {K : PySem.W.Frag} {mg : Str → Option Value} {F : Hp} {k : DK} {v : V} {d : D} (hk : okK k) (h : Dn K mg F v d) : ∀ {kvs : List (Key × V)} {kds : List (DK × D)}, Dkv K mg F kvs kds → Dkv K mg F (kvs ++ [(k.key, v)]) (kds ++ [(k, d)])
  | _, _, .nil => .cons hk h .nil
  | _, _, .cons ok q r => .cons ok q (dkv_snoc hk h r)
theorem dkv_put {K : PySem.W.Frag} {mg : Str → Option Value} {F : Hp} {k : DK} {v : V} {d : D} (hk : okK k) (h : Dn K mg F v d) {kvs : List (Key × V)} {kds : List (DK × D)} (r : Dkv K mg F kvs kds) : Dkv K mg F (putK kvs k.key v) (putK' k d kds) := by
  unfold putK putK'
  rw [dkv_any r]
  split
  · exact dkv_map h r
  · exact dkv_snoc hk h r
theorem Dkv.length {K : PySem.W.Frag} {mg : Str → Option Value} {F : Hp} : ∀ {kvs : List (Key × V)} {kds : List (DK × D)}, Dkv K mg F kvs kds → kvs.length = kds.length
  | _, _, .nil => rfl
  | _, _, .cons _ _ r => by simp [r.length]
theorem es_stO {i : Nat} {y : Str} {b e : Expr} {f g : M D} {p2 pos' pos : Pos} (hN : c.N[i]? = some y) (hv : Vis c.sc y) (he : ED c e f) (hb : ED c b g) (hd : (y == ("__debug__" : Str)) = false := by decide) (hcd : (y == ("__classdict__" : Str)) = false := by decide)
    (h1 : ∀ env, swapsWithSole [.Subscript (.Name y p2) b pos'] e pos.line env = pure false := by intro _; rfl) (h2 : ∀ env, swappedStores [.Subscript (.Name y p2) b pos'] e env = pure none := by intro _; rfl)
    (h3 : ∀ env, List.map (fun x => x.snd) (assignEach [.Subscript (.Name y p2) b pos'] env) = [assign (.Subscript (.Name y p2) b pos') env] := by intro _; rfl)
    (ha : ∀ env v, assign (.Subscript (.Name y p2) b pos') env v = (do
      let ov ← holding [v] (eval (.Name y p2) env)
      let iv ← holding [v, ov] (eval b env)
      standAt pos'
      holding [v, ov, iv] (setItem ov iv v)
      release [v, ov, iv] []) := by intro _ _; rfl) : ES c (.Assign [.Subscript (.Name y p2) b pos'] e pos) (stO i f g) := fun G X W p z => by
  have pv : PE X (.Name y p2) (tVar i) := pe_var (i := i) (by rw [z.N]; exact hN) (by rw [z.sc]; exact hv) hd hcd
  refine ps_imp (ps_asg (he G X W z) (pg_sub pv (hb G X W z) (PSet.or set_list (set_dict' (by have := z.room.units; omega))) (fun v => ha _ v)) (h1 _) (h2 _) (h3 _)) fun Z σ H ⟨F, ρ, R, q⟩ => ?_
  unfold stO at q
  have q' := q
  unfold own at q'
  split at q'
  case isFalse => exact q'.elim
  refine tG_bindS R q' fun F1 H1 ρ1 x dx s1 R1 rx q1 => ?_
  unfold own at q1
  split at q1
  case isFalse => exact q1.elim
  rename_i ho
  obtain ⟨d0, ho⟩ := isOw_of ho
  obtain ⟨a, h0, _⟩ := R1.ow i d0 ho
  refine ⟨_, h0, ?_⟩
  refine tG_bindS R1 q1 fun F2 H2 ρ2 k dk s2 R2 rk q2 => ?_
  split at q2
  · rename_i ds e1
    obtain ⟨a1, h1, ow⟩ := R2.ow i _ e1
    rw [h0] at h1; cases h1
    obtain ⟨vs, p1, p2⟩ := ow.at_
    split at q2
    case _ n =>
      cases rk
      cases e2 : ixN ds.length n with
      | none => simp only [e2] at q2; exact q2.elim
      | some j =>
        simp only [e2] at q2
        refine .inl ⟨_, vs, n, j, rfl, rfl, p1, by rw [p2.length]; exact e2, ?_⟩
        exact q2 σ F2 _ (Same.refl _) (R2.own_lst e1 h0 ow.nf (p2.set (rx.mono s2) j))
    case _ => exact q2.elim
  · rename_i kvs e1
    obtain ⟨a1, h1, ow⟩ := R2.ow i _ e1
    rw [h0] at h1; cases h1
    obtain ⟨kvV, p1, p2⟩ := ow.at_
    cases hk : asK dk with
    | none => simp only [hk] at q2; exact q2.elim
    | some k' =>
      simp only [hk] at q2
      split at q2
      case isFalse => exact q2.elim
      rename_i hlen
      refine .inr ⟨_, _, rfl, .inl ⟨kvV, k'.key, p1, asK_V rk hk, by rw [sz_eq, p2.length]; exact hlen, rfl⟩, ?_⟩
      refine q2 σ F2 _ (Same.refl _) (R2.chgU e1 h0 ow.nf ⟨_, upd_same, dkv_put (asK_ok rk hk) (rx.mono s2) p2⟩)
  · exact q2.elim
end
end DL

namespace DL
open PySem L2
section
variable {c : Stat}
/-! ### values that are the frame's own -/
def SlAt (c : Stat) (G : Ent) (F H : Hp) (σ : L2.St) (ρ : En) (v : V) : Sl → Prop
  | .un => False
  | .xc _ => False
  | .fz d => Dn c.K c.mg F v d
  | .ow d => ∃ a, v = .ref a ∧ Ow c.K c.mg G F H a d ∧ ∀ (i : Nat) (e : D), ρ[i]? = some (.ow e) → σ[i]? ≠ some (some (.ref a))
def PostV (c : Stat) (G : Ent) (W : WX) (F : Hp) (σ : L2.St) (o : Out Sl) (Q : VK) : Prop := match o with
  | .ok s ρ' => ∀ v F' H', Same F F' → Rel c.K c.mg c.xt G F' H' σ ρ' → SlAt c G F' H' σ ρ' v s → Q v H'
  | .err x ρ' => ∀ F' H' cls d, Same F F' → Rel c.K c.mg c.xt G F' H' σ ρ' → XRel c.mg c.K F' cls d x → W cls d σ H'
  | .bad => False
def tV (c : Stat) (G : Ent) (W : WX) (m : M Sl) : TE := fun σ H Q => ∃ F ρ, Rel c.K c.mg c.xt G F H σ ρ ∧ PostV c G W F σ (m ρ) Q
def EV (c : Stat) (e : Expr) (m : M Sl) : Prop := ∀ G X W, Cz c X W → PE X e (tV c G W m)
theorem PostV.mono {G : Ent} {W : WX} {F F' : Hp} {σ : L2.St} {o : Out Sl} {Q : VK} (s : Same F F') (h : PostV c G W F σ o Q) : PostV c G W F' σ o Q := by
  cases o with
  | ok a ρ => exact fun b F2 H2 s2 => h b F2 H2 (s.trans s2)
  | err x ρ => exact fun F2 H2 cls d s2 => h F2 H2 cls d (s.trans s2)
  | bad => exact h
theorem tG_bindV {α β : Type} {R : Hp → β → α → Prop} {G : Ent} {W : WX} {σ : L2.St} {H : Hp} {m : M α} {f : α → M Sl} {k : β → Hp → Prop} {Q : VK} {F : Hp} {ρ : En} (r : Rel c.K c.mg c.xt G F H σ ρ) (h : PostV c G W F σ (bnd m f ρ) Q)
    (hk : ∀ F' H1 ρ' b a, Same F F' → Rel c.K c.mg c.xt G F' H1 σ ρ' → R F' b a → PostV c G W F' σ (f a ρ') Q → k b H1) : tG R c G W m σ H k := by
  refine ⟨F, ρ, r, ?_⟩
  unfold bnd at h
  cases e : m ρ with
  | bad => rw [e] at h; exact h
  | err x ρ' => rw [e] at h; exact h
  | ok a ρ' =>
    rw [e] at h
    exact fun b F' H' s r' rb => hk F' H' ρ' b a s r' rb (PostV.mono s h)
def fzV (m : M D) : M Sl := bnd m fun d => ret (.fz d)
theorem ev_fz {e : Expr} {f : M D} (h : ED c e f) : EV c e (fzV f) := fun G X W z => by
  refine pe_imp (h G X W z) fun σ H Q ⟨F, ρ, R, q⟩ => ?_
  exact tG_bindV R q fun F1 H1 ρ1 x dx s1 R1 rx q1 => q1 x F1 H1 (Same.refl _) R1 rx
/-- something new, laid at p -/
theorem fresh_own {G : Ent} {F H : Hp} {σ : L2.St} {ρ : En} {p : Addr} {o : HO} {d : D} (R : Rel c.K c.mg c.xt G F H σ ρ) (hp : H p = none) (h : OwnAt c.K c.mg F (upd H p o) p d) : Rel c.K c.mg c.xt G F (upd H p o) σ ρ ∧ SlAt c G F (upd H p o) σ ρ (.ref p) (.ow d) := by
  have no : ∀ (i : Nat) (e : D), ρ[i]? = some (.ow e) → σ[i]? ≠ some (some (.ref p)) := fun i e hi q => by
    obtain ⟨a, h1, h2⟩ := R.ow i e hi
    rw [q] at h1; cases h1
    exact h2.at_.some hp
  exact ⟨R.own (R.fh.free hp) (R.h0_none hp) no (.none hp), p, rfl, ⟨R.fh.free hp, .inl (R.h0_none hp), h⟩, no⟩
def owL (a : M (List D)) : M Sl := bnd a fun ds => if ds.length ≤ sz then ret (.ow (.lst ds)) else fun _ => .bad
theorem ev_lst {es : List Expr} {f : M (List D)} {pos} (ha : EA c es f) : EV c (.List es pos) (owL f) := fun G X W z => by
  refine pe_imp (pe_lst (ha G X W z)) fun σ H Q ⟨F, ρ, R, q⟩ => ?_
  refine tG_bindV R q fun F1 H1 ρ1 vs ds s1 R1 rx q1 => ?_
  split at q1
  · rename_i hl
    refine ⟨by rw [sz_eq, rx.length]; exact hl, fun p hp => ?_⟩
    obtain ⟨R2, s2⟩ := fresh_own (d := .lst ds) (o := .lst vs) R1 hp ⟨vs, upd_same, rx⟩
    exact q1 _ F1 _ (Same.refl _) R2 s2
  · exact q1.elim
theorem ev_dict0 {pos} : EV c (.Dict [] [] pos) (ret (.ow (.dct []))) := fun G X W z => by
  refine pe_imp pe_dnewK fun σ H Q ⟨F, ρ, R, q⟩ => fun p hp => ?_
  obtain ⟨R2, s2⟩ := fresh_own (d := .dct []) (o := .dK []) R hp ⟨[], upd_same, .nil⟩
  exact q _ F _ (Same.refl _) R2 s2
/-- list(x) -/
def owSeq (a : M D) : M Sl := bnd a fun d => match dSeq d with
  | some ds => ret (.ow (.lst ds))
  | none => fun _ => .bad
/-! ### stores of such -/
def putS (np i : Nat) (s : Sl) : En → Option En := fun ρ => match ρ[i]? with
  | none => none
  | some (.ow _) => if np ≤ i then some (ρ.set i s) else none
  | some _ => some (ρ.set i s)
theorem putS_eq {np i : Nat} {s : Sl} {ρ ρ' : En} (h : DL.putS np i s ρ = some ρ') : ρ' = ρ.set i s ∧ i < ρ.length := by
  unfold DL.putS at h
  cases e : ρ[i]? with
  | none => rw [e] at h; cases h
  | some t =>
    have hl : i < ρ.length := (List.getElem?_eq_some_iff.mp e).1
    rw [e] at h
    cases t with
    | ow d =>
      dsimp only at h
      split at h <;> cases h
      exact ⟨rfl, hl⟩
    | un => cases h; exact ⟨rfl, hl⟩
    | xc d => cases h; exact ⟨rfl, hl⟩
    | fz d => cases h; exact ⟨rfl, hl⟩
theorem Rel.putS {G : Ent} {F H : Hp} {σ : L2.St} {ρ ρ' : En} {i : Nat} {v : V} {s : Sl} (R : Rel c.K c.mg c.xt G F H σ ρ) (hp : PaOk c G) (r : SlAt c G F H σ ρ v s) (h : DL.putS c.np i s ρ = some ρ') : Rel c.K c.mg c.xt G F H (σ.set i (some v)) ρ' := by
  unfold DL.putS at h
  have key : (∀ p ∈ G.pa, p.1 ≠ i) ∧ i < ρ.length ∧ ρ' = ρ.set i s := by
    cases e : ρ[i]? with
    | none => rw [e] at h; cases h
    | some t =>
      have hl : i < ρ.length := (List.getElem?_eq_some_iff.mp e).1
      cases t with
      | ow d =>
        rw [e] at h
        dsimp only at h
        split at h
        · rename_i hn
          cases h
          exact ⟨fun p pm z => by have := hp p pm; omega, hl, rfl⟩
        · cases h
      | un =>
        rw [e] at h; cases h
        exact ⟨(fun p pm z => by obtain ⟨d, q⟩ := R.pw p pm; rw [z, e] at q; cases q), hl, rfl⟩
      | xc _ =>
        rw [e] at h; cases h
        exact ⟨(fun p pm z => by obtain ⟨d, q⟩ := R.pw p pm; rw [z, e] at q; cases q), hl, rfl⟩
      | fz d =>
        rw [e] at h; cases h
        exact ⟨(fun p pm z => by obtain ⟨d, q⟩ := R.pw p pm; rw [z, e] at q; cases q), hl, rfl⟩
  obtain ⟨npa, hl, rfl⟩ := key
  have hσ : i < σ.length := by rw [R.len]; exact hl
  refine ⟨R.f0, R.fh, R.kept, fun p pm => ?_, fun j e q => ?_, fun j e q => ?_, fun j k a e f hjk q1 q2 q3 => ?_, ?_, fun p pm => ?_, R.fn, R.tbs, R.tb, R.xcSet (fun x q => by subst q; exact r) fun j hj => List.getElem?_set_ne (Ne.symm hj)⟩
  · rw [List.getElem?_set_ne (Ne.symm (npa p pm))]
    exact R.par p pm
  · by_cases hj : j = i
    · subst hj
      rw [List.getElem?_set_self hl] at q
      cases q
      exact ⟨v, List.getElem?_set_self hσ, r⟩
    · rw [List.getElem?_set_ne (Ne.symm hj)] at q ⊢
      exact R.fz j e q
  · by_cases hj : j = i
    · subst hj
      rw [List.getElem?_set_self hl] at q
      cases q
      obtain ⟨a, rfl, h1, _⟩ := r
      exact ⟨a, List.getElem?_set_self hσ, h1⟩
    · rw [List.getElem?_set_ne (Ne.symm hj)] at q ⊢
      exact R.ow j e q
  · by_cases hj : j = i
    · subst hj
      rw [List.getElem?_set_self hl] at q1
      cases q1
      obtain ⟨a', rfl, _, h2⟩ := r
      rw [List.getElem?_set_self hσ] at q3
      cases q3
      have hk : k ≠ j := Ne.symm hjk
      rw [List.getElem?_set_ne (Ne.symm hk)] at q2 ⊢
      exact h2 k f q2
    · rw [List.getElem?_set_ne (Ne.symm hj)] at q1 q3
      by_cases hk : k = i
      · subst hk
        rw [List.getElem?_set_self hl] at q2
        cases q2
        obtain ⟨a', rfl, _, h2⟩ := r
        rw [List.getElem?_set_self hσ]
        intro z
        cases z
        exact h2 j e q1 q3
      · rw [List.getElem?_set_ne (Ne.symm hk)] at q2 ⊢
        exact R.ne j k a e f hjk q1 q2 q3
  · rw [List.length_set, List.length_set]; exact R.len
  · obtain ⟨e, q⟩ := R.pw p pm
    exact ⟨e, by rw [List.getElem?_set_ne (Ne.symm (npa p pm))]; exact q⟩
def asgV (np i : Nat) (e : M Sl) : M Fl := bnd e fun s ρ => match putS np i s ρ with
  | some ρ' => .ok .nx ρ'
  | none => .bad
theorem tV_bindS {G : Ent} {W : WX} {σ : L2.St} {H : Hp} {m : M Sl} {f : Sl → M Fl} {k : V → Hp → Prop} {Z : Ends} {F : Hp} {ρ : En} (r : Rel c.K c.mg c.xt G F H σ ρ) (h : PostS c G W F (bnd m f ρ) Z)
    (hk : ∀ F' H1 ρ' v s, Same F F' → Rel c.K c.mg c.xt G F' H1 σ ρ' → SlAt c G F' H1 σ ρ' v s → PostS c G W F' (f s ρ') Z → k v H1) : tV c G W m σ H k := by
  refine ⟨F, ρ, r, ?_⟩
  unfold bnd at h
  cases e : m ρ with
  | bad => rw [e] at h; exact h
  | err x ρ' => rw [e] at h; exact fun F2 H2 cls d s2 r2 x2 => h σ F2 H2 cls d s2 r2 x2
  | ok a ρ' =>
    rw [e] at h
    exact fun b F' H' s r' rb => hk F' H' ρ' b a s r' rb (PostS.mono s h)
/-- x = e, the value perhaps the frame's own -/
theorem es_asgV {i : Nat} {x : Str} {e : Expr} {f : M Sl} {px pos : Pos} (h : Lc c i x) (he : EV c e f) (h1 : ∀ X W, Cz c X W → swapsWith e (some (.Name x px)) pos.line X.env = pure false := by intro _ _ _; rfl) : ES c (.Assign [.Name x px] e pos) (asgV c.np i f) := fun G X W p z => by
  refine ps_imp (ps_set (i := i) (by rw [z.N]; exact z.nd) (by rw [z.N]; exact h.1) (by rw [z.sc]; exact h.2.imp (fun k => k) (fun k => k.1)) (he G X W z) (h1 X W z) (h.2.elim (fun k => .inr (by rw [z.sc]; exact k)) fun k => .inl (z.fnc x k.2))) fun Z σ H ⟨F, ρ, R, q⟩ => ?_
  refine tV_bindS R q fun F1 H1 ρ1 v s s1 R1 rv q1 => ?_
  cases e1 : putS c.np i s ρ1 with
  | none => simp only [e1] at q1; exact q1.elim
  | some ρ' => simp only [e1] at q1; exact q1 _ F1 H1 (Same.refl _) (R1.putS p rv e1)
/-- return e, the value the frame's own -/
def retV (e : M Sl) : M Fl := bnd e fun s => match s with
  | .ow d => ret (.ro d)
  | .fz d => ret (.rt d)
  | _ => fun _ => .bad
theorem es_retV {e : Expr} {f : M Sl} {pos : Pos} (h : EV c e f) : ES c (.Return (some e) pos) (retV f) := fun G X W _ z => by
  refine ps_imp (ps_ret (h G X W z)) fun Z σ H ⟨F, ρ, R, q⟩ => ?_
  refine tV_bindS R q fun F1 H1 ρ1 v s s1 R1 rv q1 => ?_
  cases s with
  | un => exact rv.elim
  | xc _ => exact rv.elim
  | fz d => exact q1 v σ F1 H1 (Same.refl _) R1 rv
  | ow d =>
    obtain ⟨a, rfl, ow, no⟩ := rv
    exact q1 a σ F1 H1 (Same.refl _) R1 ow no
/-- two names at once -/
def parV (np i j : Nat) (a b : M Sl) : M Fl := bnd a fun s => bnd b fun t ρ => match putS np i s ρ with
  | some ρ1 => (match putS np j t ρ1 with
    | some ρ2 => .ok .nx ρ2
    | none => .bad)
  | none => .bad
theorem es_parV {i j : Nat} {x y : Str} {a b : Expr} {f g : M Sl} {px py pt pt2 pos : Pos} {kt k2 : Nat} (hi : c.N[i]? = some x) (hj : c.N[j]? = some y) (hij : i ≠ j) (hx : c.sc.names.lookup x = some .local) (hy : c.sc.names.lookup y = some .local) (ha : EV c a f) (hb : EV c b g)
    (hw : ∀ X W, Cz c X W → swappedStores [.Tuple [.Name x px, .Name y py] kt pt] (.Tuple [a, b] k2 pt2) X.env = pure (some [x, y])) (h1 : ∀ env, swapsWithSole [.Tuple [.Name x px, .Name y py] kt pt] (.Tuple [a, b] k2 pt2) pos.line env = pure false := by intro _; rfl)
    (hs : ∀ env, starEach [a, b] env = [(false, eval a env), (false, eval b env)] := by intro _; rfl) (hs2 : ∀ env, starEach [b] env = [(false, eval b env)] := by intro _; rfl) (hc : c.hot = false := by first | rfl | assumption) : ES c (.Assign [.Tuple [.Name x px, .Name y py] kt pt] (.Tuple [a, b] k2 pt2) pos) (parV c.np i j f g) := fun G X W p z => by
  have pb : PE X b (fun σ H Q => ∃ G', tV c G' W g σ H Q) := ⟨fun pins s σ H Q I ⟨G', q⟩ => (hb G' X W z).run pins s σ H Q I q⟩
  refine ps_imp (ps_par (z.calm hc) (by rw [z.N]; exact z.nd) (by rw [z.N]; exact hi) (by rw [z.N]; exact hj) hij (by rw [z.sc]; exact hx) (by rw [z.sc]; exact hy) (pa_cons (ha G X W z) (pa_cons pb pa_nil (by rw [hs2]; rfl)) (by rw [hs, hs2])) (hw X W z) (h1 _)) fun Z σ H ⟨F, ρ, R, q⟩ => ?_
  refine tV_bindS R q fun F1 H1 ρ1 v s s1 R1 rv q1 => ?_
  refine ⟨_, F1, ρ1, R1.nest, ?_⟩
  unfold bnd at q1
  cases e : g ρ1 with
  | bad => rw [e] at q1; exact q1
  | err x ρ' => rw [e] at q1; exact fun F2 H2 cls d s2 r2 x2 => q1 σ F2 H2 cls d s2 (R1.unnest r2 fun _ _ => rfl) x2
  | ok t ρ' =>
  rw [e] at q1
  intro w F2 H2 s2 R2 rw2
  refine ⟨v, w, rfl, ?_⟩
  have R3 := R1.unnest R2 fun _ _ => rfl
  -- the first value behind the second
  have rv3 : SlAt c G F2 H2 σ ρ' v s := by
    cases s with
    | un => exact rv.elim
    | xc _ => exact rv.elim
    | fz d => exact rv.mono s2
    | ow d =>
      obtain ⟨a', rfl, ow, no⟩ := rv
      have hne := ow.at_.some
      have nOwn : ∀ q ∈ owns σ ρ1, q.2 ≠ a' := fun ⟨k, b'⟩ hm zz => by
        obtain ⟨d', q1', q2'⟩ := mem_owns.mp hm
        have zz : b' = a' := zz
        subst zz
        exact no k d' q1' q2'
      refine ⟨a', rfl, ⟨?_, ow.nh, ow.at_.mono' s2 fun o ht ho => R2.kept a' o ho ht nOwn⟩, fun k e' hk hq => ?_⟩
      · rw [R2.fn a' hne]; exact ow.nf
      · obtain ⟨b', h1', h2'⟩ := R2.ow k e' hk
        rw [hq] at h1'; cases h1'
        rcases h2'.nh with zz | ⟨q', qm, zz⟩
        · exact hne zz
        · exact nOwn q' qm zz
  have rw3 : SlAt c G F2 H2 σ ρ' w t := by
    cases t with
    | un => exact rw2.elim
    | xc _ => exact rw2.elim
    | fz d => exact rw2
    | ow d =>
      obtain ⟨b', rfl, ow, no⟩ := rw2
      refine ⟨b', rfl, ⟨ow.nf, ?_, ow.at_⟩, no⟩
      rcases ow.nh with zz | ⟨⟨k, y'⟩, qm, zz⟩
      · exact .inl (R1.h0_none zz)
      · have zz : y' = b' := zz
        subst zz
        obtain ⟨d', q1', q2'⟩ := mem_owns.mp qm
        obtain ⟨y2, q3', q4'⟩ := R1.ow k d' q1'
        rw [q2'] at q3'; cases q3'
        exact q4'.nh
  dsimp only at q1
  cases e1 : putS c.np i s ρ' with
  | none => simp only [e1] at q1; exact q1.elim
  | some ρ2 =>
  simp only [e1] at q1
  cases e2 : putS c.np j t ρ2 with
  | none => simp only [e2] at q1; exact q1.elim
  | some ρ3 =>
  simp only [e2] at q1
  have R4 := R3.putS p rv3 e1
  refine q1 _ F2 H2 s2 (R4.putS p ?_ e2)
  obtain ⟨rfl, hl⟩ := putS_eq e1
  cases t with
  | un => exact rw3.elim
  | xc _ => exact rw3.elim
  | fz d => exact rw3
  | ow d =>
    obtain ⟨b', rfl, ow, no⟩ := rw3
    refine ⟨b', rfl, ow, fun k e' hk hq => ?_⟩
    by_cases hki : k = i
    · subst hki
      rw [List.getElem?_set_self hl] at hk
      cases hk
      have hσl : k < σ.length := by rw [R3.len]; exact hl
      rw [List.getElem?_set_self hσl] at hq
      obtain ⟨a', rfl, owa, noa⟩ := rv
      cases hq
      have hne := owa.at_.some
      have ⟨b2, hb2, owb, nob⟩ := rw2
      cases hb2
      rcases owb.nh with zz | ⟨⟨l, y'⟩, qm, zz⟩
      · exact hne zz
      · obtain ⟨d', q1', q2'⟩ := mem_owns.mp qm
        refine noa l d' q1' ?_
        rw [q2']
        exact congrArg (fun t => some (some (V.ref t))) zz
    · rw [List.getElem?_set_ne (Ne.symm hki)] at hk hq
      exact no k e' hk hq
/-! ### a thing of the frame's own is given up: from now on it stays as it is -/
def frzM {α : Type} (i : Nat) (m : M α) : M α := fun ρ => match ρ[i]? with
  | some (.ow (.lst ds)) => if ds.length ≤ sz then m (ρ.set i (.fz (.lst ds))) else .bad
  | some (.ow (.dct ds)) => if ds.length ≤ sz then m (ρ.set i (.fz (.dct ds))) else .bad
  | some (.ow (.ins cl fs)) => m (ρ.set i (.fz (.ins cl fs)))
  | _ => .bad
theorem Rel.frz {G : Ent} {F H : Hp} {σ : L2.St} {ρ : En} {i : Nat} {a : Addr} {d e : D} {o : HO} (R : Rel c.K c.mg c.xt G F H σ ρ) (hp : PaOk c G) (hi : c.np ≤ i) (hρ : ρ[i]? = some (.ow d)) (hσ : σ[i]? = some (some (.ref a))) (r : Dn c.K c.mg (upd F a o) (.ref a) e) :
    Rel c.K c.mg c.xt G (upd F a o) (upd H a o) σ (ρ.set i (.fz e)) := by
  have hl : i < ρ.length := (List.getElem?_eq_some_iff.mp hρ).1
  obtain ⟨a', e1, ow⟩ := R.ow i d hρ
  rw [hσ] at e1; cases e1
  have npa : ∀ p ∈ G.pa, p.1 ≠ i := fun p pm z => by have := hp p pm; omega
  have h0 : G.H0 a = none := by
    rcases ow.nh with z | ⟨p, pm, z⟩
    · exact z
    · exfalso
      obtain ⟨d', q⟩ := R.pw p pm
      refine R.ne p.1 i p.2 d' d (npa p pm) q hρ (R.par p pm) ?_
      rw [z]; exact hσ
  have sF : Same F (upd F a o) := fun x u q => by rw [upd_ne (ne_of_none q ow.nf)]; exact q
  refine ⟨R.f0.trans sF, fun x u q => ?_, fun b u h1 ht h2 => ?_, R.par, fun j f q => ?_, fun j f q => ?_, fun j k x f g hjk q1 q2 q3 => ?_, (by rw [List.length_set]; exact R.len), fun p pm => ?_, fun b hb => ?_, fun b ps h => ?_, (R.tb.updF ow.at_.plain).upd ow.at_.plain, xcMono' sF (R.xcSet (i := i) (s := .fz e) (fun x q => by cases q) fun _ _ => rfl)⟩
  · by_cases hx : x = a
    · subst hx; rw [upd_same] at q ⊢; exact q
    · rw [upd_ne hx] at q ⊢; exact R.fh x u q
  · rw [upd_ne (ne_of_none h1 h0)]; exact R.kept b u h1 ht h2
  · by_cases hj : j = i
    · subst hj
      rw [List.getElem?_set_self hl] at q
      cases q
      exact ⟨_, hσ, r⟩
    · rw [List.getElem?_set_ne (Ne.symm hj)] at q
      obtain ⟨v, h1, h2⟩ := R.fz j f q
      exact ⟨v, h1, h2.mono sF⟩
  · have hj : j ≠ i := fun z => by subst z; rw [List.getElem?_set_self hl] at q; cases q
    rw [List.getElem?_set_ne (Ne.symm hj)] at q
    obtain ⟨x, h1, h2⟩ := R.ow j f q
    have hx : x ≠ a := fun z => R.ne i j a d f (Ne.symm hj) hρ q hσ (by rw [← z]; exact h1)
    exact ⟨x, h1, ⟨by rw [upd_ne hx]; exact h2.nf, h2.nh, h2.at_.mono sF fun u z => by rw [upd_ne hx]; exact z⟩⟩
  · have hj : j ≠ i := fun z => by subst z; rw [List.getElem?_set_self hl] at q1; cases q1
    have hk : k ≠ i := fun z => by subst z; rw [List.getElem?_set_self hl] at q2; cases q2
    rw [List.getElem?_set_ne (Ne.symm hj)] at q1
    rw [List.getElem?_set_ne (Ne.symm hk)] at q2
    exact R.ne j k x f g hjk q1 q2 q3
  · obtain ⟨f, q⟩ := R.pw p pm
    exact ⟨f, by rw [List.getElem?_set_ne (Ne.symm (npa p pm))]; exact q⟩
  · have : b ≠ a := fun z => by subst z; exact hb h0
    rw [upd_ne this]; exact R.fn b hb
  · obtain ⟨qs, q⟩ := R.tbs b ps h
    exact ⟨qs, by rw [upd_ne (ne_of_none h h0)]; exact q⟩
theorem upd_self {H : Hp} {a : Addr} {o : HO} (h : H a = some o) : upd H a o = H := by
  funext x
  unfold upd
  split
  · rename_i e; subst e; exact h.symm
  · rfl
theorem ess_frz {i : Nat} {ss : List Stmt} {m : M Fl} (hi : c.np ≤ i) (h : ESs c ss m) : ESs c ss (frzM i m) := fun G X W p z => by
  refine ⟨fun pins s σ H Z I ⟨F, ρ, R, q⟩ => ?_⟩
  unfold frzM at q
  cases e : ρ[i]? with
  | none => rw [e] at q; exact q.elim
  | some t =>
  rw [e] at q
  cases t with
  | un => exact q.elim
  | xc d => exact q.elim
  | fz d => exact q.elim
  | ow d =>
  obtain ⟨a, hσ, ow⟩ := R.ow i d e
  have sF : ∀ o, Same F (upd F a o) := fun o x u q => by rw [upd_ne (ne_of_none q ow.nf)]; exact q
  cases d with
  | lst ds =>
    dsimp only at q
    split at q
    case isFalse => exact q.elim
    rename_i hl
    obtain ⟨vs, h1, h2⟩ := ow.at_
    have R2 := R.frz (o := .lst vs) p hi e hσ (dn_lst ow.nf h2 hl)
    rw [upd_self h1] at R2
    exact (h G X W p z).run pins s σ H Z I ⟨_, _, R2, PostS.mono (sF _) q⟩
  | dct ds =>
    dsimp only at q
    split at q
    case isFalse => exact q.elim
    rename_i hl
    obtain ⟨kvs, h1, h2⟩ := ow.at_
    obtain ⟨od, I1⟩ := I.lock h1 trivial
    have R2 := R.frz (o := .frz od (.dK kvs)) (e := .dct ds) p hi e hσ (.dct upd_same (h2.mono (sF _)) hl)
    exact (h G X W p z).run pins s σ _ Z I1 ⟨_, _, R2, PostS.mono (sF _) q⟩
  | ins cl fs =>
    obtain ⟨C, dx, vs, g, h1, h2⟩ := ow.at_
    have R2 := R.frz (o := .ins C dx vs) (e := .ins cl fs) p hi e hσ (.ins g upd_same (h2.mono (sF _)))
    rw [upd_self h1] at R2
    exact (h G X W p z).run pins s σ H Z I ⟨_, _, R2, PostS.mono (sF _) q⟩
  | non => exact q.elim
  | bl _ => exact q.elim
  | int _ => exact q.elim
  | str _ => exact q.elim
  | tup _ => exact q.elim
  | gl _ => exact q.elim
  | ty _ => exact q.elim
  | exc _ _ => exact q.elim
/-- never reached -/
theorem es_never {s : Stmt} : ES c s (fun _ => .bad) := fun G X W _ z => ⟨fun pins st σ H Z I ⟨F, ρ, R, q⟩ => q.elim⟩
theorem ed_never {e : Expr} : ED c e (fun _ => .bad) := fun G X W z => ⟨fun pins st σ H Z I ⟨F, ρ, R, q⟩ => q.elim⟩
end
end DL

namespace DL
open PySem L2
theorem char_inj {a b : Char} (h : a.toNat = b.toNat) : a = b := Char.ext (UInt32.toNat_inj.mp h)
theorem map_char_inj : ∀ {a b : List Char}, a.map Char.toNat = b.map Char.toNat → a = b
  | [], [], _ => rfl
  | [], _ :: _, h => by cases h
  | _ :: _, [], h => by cases h
  | x :: a, y :: b, h => by
    simp only [List.map_cons, List.cons.injEq] at h
    rw [char_inj h.1, map_char_inj h.2]
theorem ofString_inj {a b : String} (h : Str.ofString a = Str.ofString b) : a = b := by
  rw [Str.ofString_eq_toList, Str.ofString_eq_toList] at h
  have h2 : (a.toList.map Char.toNat).toArray = (b.toList.map Char.toNat).toArray := congrArg Str.cps h
  have h3 := congrArg Array.toList h2
  simp only [List.toList_toArray] at h3
  exact String.toList_inj.mp (map_char_inj h3)
section
variable {c : Stat}
def lookF (f : String) : List (String × D) → Option D
  | [] => none
  | (g, d) :: r => if g = f then some d else lookF f r
def putF' (f : String) (d : D) : List (String × D) → List (String × D)
  | [] => [(f, d)]
  | (g, e) :: r => if g = f then (g, d) :: r else (g, e) :: putF' f d r
theorem dfs_look {K : PySem.W.Frag} {mg : Str → Option Value} {F : Hp} {f : String} {d : D} : ∀ {vs : List (Str × V)} {fs : List (String × D)}, Dfs K mg F vs fs → lookF f fs = some d → ∃ v, vs.lookup (Str.ofString f) = some v ∧ Dn K mg F v d
  | _, _, .nil, h => by cases h
  | _, _, @Dfs.cons _ _ _ g v e vs fs h r, q => by
    unfold lookF at q
    by_cases hg : g = f
    · subst hg
      rw [if_pos rfl] at q
      cases q
      exact ⟨v, by simp [List.lookup], h⟩
    · rw [if_neg hg] at q
      obtain ⟨w, h1, h2⟩ := dfs_look r q
      have hn : (Str.ofString f == Str.ofString g) = false := by
        rw [beq_eq_false_iff_ne]
        exact fun z => hg (ofString_inj z).symm
      exact ⟨w, by simp [List.lookup, hn, h1], h2⟩
theorem dfs_none {K : PySem.W.Frag} {mg : Str → Option Value} {F : Hp} {f : String} : ∀ {vs : List (Str × V)} {fs : List (String × D)}, Dfs K mg F vs fs → lookF f fs = none → vs.lookup (Str.ofString f) = none
  | _, _, .nil, h => rfl
  | _, _, @Dfs.cons _ _ _ g v e vs fs h r, q => by
    unfold lookF at q
    by_cases hg : g = f
    · subst hg
      rw [if_pos rfl] at q
      cases q
    · rw [if_neg hg] at q
      have hn : (Str.ofString f == Str.ofString g) = false := by
        rw [beq_eq_false_iff_ne]
        exact fun z => hg (ofString_inj z).symm
      simp [List.lookup, hn, dfs_none r q]
theorem dfs_put {K : PySem.W.Frag} {mg : Str → Option Value} {F : Hp} {f : String} {v : V} {d : D} (h : Dn K mg F v d) : ∀ {vs : List (Str × V)} {fs : List (String × D)}, Dfs K mg F vs fs → Dfs K mg F (putF (Str.ofString f) v vs) (putF' f d fs)
  | _, _, .nil => .cons h .nil
  | _, _, @Dfs.cons _ _ _ g w e vs fs q r => by
    unfold putF putF'
    by_cases hg : g = f
    · subst hg
      rw [if_pos rfl, if_pos rfl]
      exact .cons h r
    · rw [if_neg hg, if_neg fun z => hg (ofString_inj z)]
      exact .cons q (dfs_put h r)
theorem Dfs.length {K : PySem.W.Frag} {mg : Str → Option Value} {F : Hp} : ∀ {vs : List (Str × V)} {fs : List (String × D)}, Dfs K mg F vs fs → vs.length = fs.length
  | _, _, .nil => rfl
  | _, _, .cons _ r => by simp [r.length]
/-! ### own classes -/
structure ClD (b : Base) (cl : String) (C : Addr) : Prop where
  g : b.mg (Str.ofString cl) = some (.ref C)
  c : Cls b.K C
theorem ClD.same {b : Base} {cl : String} {C C' : Addr} (k : ClD b cl C) (h : b.mg (Str.ofString cl) = some (.ref C')) : C' = C := by
  rw [k.g] at h; cases h; rfl
def dAttr (cl f : String) : D → Option D
  | .ins c fs => if c = cl then lookF f fs else none
  | _ => none
theorem ed_attr {cl f : String} {C : Addr} {e : Expr} {g : M D} {pos : Pos} (k : ClD c.toBase cl C) (n : NoAttr c.K C (Str.ofString f)) (he : ED c e g) (hb : ∀ env x, attributeBase e (Str.ofString f) env x = x := by intro _ _; rfl) : ED c (.Attribute e (Str.ofString f) pos) (op1 (dAttr cl f) g) :=
  ed_op1 he fun X W z => by
    refine ⟨fun x H Q => ∃ a C dx fs v, x = .ref a ∧ H a = some (.ins C dx fs) ∧ Cls X.K C ∧ NoAttr X.K C (Str.ofString f) ∧ fs.lookup (Str.ofString f) = some v ∧ Q v H, ?_, fun ta pa => pe_fld pa (hb _ _)⟩
    intro F H x dx d Q s rx e a
    cases rx <;> simp only [dAttr] at e <;> try cases e
    rename_i g1 h1 r1
    split at e
    case isFalse => cases e
    rename_i hc
    subst hc
    have := k.same g1
    subst this
    obtain ⟨v, p1, p2⟩ := dfs_look r1 e
    exact ⟨_, _, _, _, v, rfl, s _ _ h1, by rw [z.K]; exact k.c, by rw [z.K]; exact n, p1, a.here s p2⟩
/-- self.f, self the frame's own -/
def attrO (i : Nat) (cl f : String) : M D := fun ρ => match ρ[i]? with
  | some (.ow (.ins c fs)) => if c = cl then (match lookF f fs with
    | some d => .ok d ρ
    | none => .bad) else .bad
  | _ => .bad
theorem ed_attrO {i : Nat} {y : Str} {cl f : String} {C : Addr} {p2 pos : Pos} (k : ClD c.toBase cl C) (n : NoAttr c.K C (Str.ofString f)) (hN : c.N[i]? = some y) (hv : Vis c.sc y) (hd : (y == ("__debug__" : Str)) = false := by decide) (hcd : (y == ("__classdict__" : Str)) = false := by decide) :
    ED c (.Attribute (.Name y p2) (Str.ofString f) pos) (attrO i cl f) := fun G X W z => by
  have pv : PE X (.Name y p2) (tVar i) := pe_var (i := i) (by rw [z.N]; exact hN) (by rw [z.sc]; exact hv) hd hcd
  refine pe_imp (pe_fld pv rfl) fun σ H Q ⟨F, ρ, R, q⟩ => ?_
  unfold attrO at q
  split at q
  · rename_i cc fs e
    split at q
    case isFalse => exact q.elim
    rename_i hc
    subst hc
    obtain ⟨a, h0, ow⟩ := R.ow i _ e
    obtain ⟨C', dx, vs, g1, h1, h2⟩ := ow.at_
    have := k.same g1
    subst this
    cases e2 : lookF f fs with
    | none => simp only [e2] at q; exact q.elim
    | some d =>
      simp only [e2] at q
      obtain ⟨v, p1, p2⟩ := dfs_look h2 e2
      exact ⟨_, h0, a, C', dx, vs, v, rfl, h1, by rw [z.K]; exact k.c, by rw [z.K]; exact n, p1, q v F H (Same.refl _) R p2⟩
  · exact q.elim
/-- self.f = e -/
def staO (i : Nat) (cl f : String) (a : M D) : M Fl := bnd a fun d ρ => match ρ[i]? with
  | some (.ow (.ins c fs)) => if c = cl ∧ fs.length < 1000 then .ok .nx (ρ.set i (.ow (.ins c (putF' f d fs)))) else .bad
  | _ => .bad
theorem es_staO {i : Nat} {y : Str} {cl f : String} {C : Addr} {e : Expr} {g : M D} {p2 pos' pos : Pos} (k : ClD c.toBase cl C) (n : NoAttr c.K C (Str.ofString f)) (hN : c.N[i]? = some y) (hv : Vis c.sc y) (he : ED c e g)
    (hs : ∀ env, swapsWith e (some (.Attribute (.Name y p2) (Str.ofString f) pos')) pos.line env = pure false := by intro _; rfl) (hd : (y == ("__debug__" : Str)) = false := by decide) (hcd : (y == ("__classdict__" : Str)) = false := by decide) :
    ES c (.Assign [.Attribute (.Name y p2) (Str.ofString f) pos'] e pos) (staO i cl f g) := fun G X W p z => by
  have pv : PE X (.Name y p2) (tVar i) := pe_var (i := i) (by rw [z.N]; exact hN) (by rw [z.sc]; exact hv) hd hcd
  refine ps_imp (ps_fld pv (he G X W z) (hs _)) fun Z σ H ⟨F, ρ, R, q⟩ => ?_
  refine tG_bindS R q fun F1 H1 ρ1 x dx s1 R1 rx q1 => ?_
  split at q1
  · rename_i cc fs e
    split at q1
    case isFalse => exact q1.elim
    rename_i hc
    obtain ⟨rfl, hl⟩ := hc
    obtain ⟨a, h0, ow⟩ := R1.ow i _ e
    obtain ⟨C', dx', vs, g1, h1, h2⟩ := ow.at_
    have := k.same g1
    subst this
    refine ⟨_, h0, a, C', dx', vs, rfl, h1, by rw [z.K]; exact k.c, by rw [z.K]; exact n, by rw [h2.length]; exact hl, ?_⟩
    refine q1 σ F1 _ (Same.refl _) (R1.chgU e h0 ow.nf ⟨C', dx', _, g1, upd_same, dfs_put rx h2⟩)
  · exact q1.elim
/-! ### methods -/
def tMethX (C : Addr) (m : Str) (sp : Sp) (E : L2.St → XK) (ta : TE) (t : TA) : TE := fun σ H Q => ta σ H fun x H1 => ∃ a dx fs, x = .ref a ∧ H1 a = some (.ins C dx fs) ∧ fs.lookup m = none ∧ t σ H1 fun vs H2 => sp (x :: vs) H2 Q (E σ)
theorem pe_methX {X : Cx} {k : Nat} {C f : Addr} {fd : FuncData} {ps : List Str} {sp : Sp} {E : L2.St → XK} {m : Str} {pos apos : Pos} {e o : Expr} {es : List Expr} {ta : TE} {t : TA} {pl : Sem Bool} (he : PE X o ta) (c : Cls X.K C) (hm : Meth X.K C m f) (F : FnG X.prog X.w X.K X.mg X.base k f fd ps sp) (hr : Room k X.A) (hgd : X.A.guards = some []) (hb : Binds X.K fd ps []) (hx : ∀ σ, PassesAt (L2.CX X.prog X.w) X σ (E σ)) (ha : PA X (e :: es) t)
    (hst : starEach (e :: es) X.env = (false, eval e X.env) :: starEach es X.env := by rfl) (hpl : (backTo pos (starEach es X.env)).any (·.1) = false := by rfl)
    (ht : eval (.Call (.Attribute o m apos) (e :: es) [] pos) X.env = (do
      let ov ← eval o X.env
      standAt apos.atName
      let (f, first) ← holding [ov] (getMethod ov m pl)
      callWith pos f first (backTo pos (starEach (e :: es) X.env)) (backToKw pos (keywordEach [] X.env))) := by rfl) :
    PE X (.Call (.Attribute o m apos) (e :: es) [] pos) (tMethX C m sp E ta t) := by
  refine ⟨fun pins s σ H Q I h => ?_⟩
  refine PySem.W.methodCall_KW (pl := pl) (thn (he.run pins s σ H _ I h) fun u s1 ⟨x, H1, I1, rx, a, dx, fs, ex, ea, l, q⟩ => ?_) ht
  subst ex
  obtain rfl : u = Value.ref a := rx
  refine getmeth_ok I1 ea c hm l ?_
  refine PySem.W.callWith_K (first := [.ref a]) (h₀ := X.base) I.ok.mod.kin hm.kp (thn (ha.run pos pins s1 σ H1 _ I1 q) fun us s2 ⟨vs, H2, I2, r, q2⟩ => ⟨I2.kIn, ?_⟩) hst hpl
  exact run_fnG (us := .ref a :: us) (vs := .ref a :: vs) F hr hgd hb (hx σ) I2 (.cons rfl r) q2
/-- a method of the class cl, by its name -/
structure MetD (b : Base) (k : Nat) (cl m : String) (io : List Nat) (g : List D → OutF) : Prop where
  ex : ∃ C f fd ps, ClD b cl C ∧ Meth b.K C (Str.ofString m) f ∧ FnG b.P b.w b.K b.mg b.base k f fd ps (spF b io g) ∧ Binds b.K fd ps []
/-- an instance of cl without a field m -/
def okIns (cl m : String) : D → Bool
  | .ins c fs => decide (c = cl) && (lookF m fs).isNone
  | _ => false
def metM (cl m : String) (g : List D → OutF) (o : M D) (a : M (List D)) : M D := bnd o fun x => if okIns cl m x then bnd a (fun ds ρ => match g (x :: ds) with
  | .ok d _ => .ok d ρ
  | .err x _ => .err x ρ
  | _ => .bad) else fun _ => .bad
theorem okIns_of {K : PySem.W.Frag} {mg : Str → Option Value} {F : Hp} {cl m : String} {x : V} {d : D} (h : okIns cl m d = true) (r : Dn K mg F x d) : ∃ a C dx vs fs, x = .ref a ∧ d = .ins cl fs ∧ mg (Str.ofString cl) = some (.ref C) ∧ F a = some (.ins C dx vs) ∧ Dfs K mg F vs fs ∧ vs.lookup (Str.ofString m) = none := by
  cases r <;> try cases h
  rename_i g1 h1 r1
  simp only [okIns, Bool.and_eq_true, decide_eq_true_eq] at h
  obtain ⟨rfl, hn⟩ := h
  exact ⟨_, _, _, _, _, rfl, rfl, g1, h1, r1, dfs_none r1 (by simpa using hn)⟩
theorem ed_met {k : Nat} {cl m : String} {g : List D → OutF} {o e : Expr} {es : List Expr} {fo : M D} {f : M (List D)} {apos pos : Pos} {pl : Env → Sem Bool} (me : MetD c.toBase k cl m [] g) (hk : k ≤ c.k) (ho : ED c o fo) (ha : EA c (e :: es) f)
    (hst : ∀ env, starEach (e :: es) env = (false, eval e env) :: starEach es env := by intro _; rfl) (hpl : ∀ env, (backTo pos (starEach es env)).any (·.1) = false := by intro _; rfl)
    (ht : ∀ env, eval (.Call (.Attribute o (Str.ofString m) apos) (e :: es) [] pos) env = (do
      let ov ← eval o env
      standAt apos.atName
      let (f, first) ← holding [ov] (getMethod ov (Str.ofString m) (pl env))
      callWith pos f first (backTo pos (starEach (e :: es) env)) (backToKw pos (keywordEach [] env))) := by intro _; rfl) (hc : c.hot = false := by first | rfl | assumption) :
    ED c (.Call (.Attribute o (Str.ofString m) apos) (e :: es) [] pos) (metM cl m g fo f) := fun G X W z => by
  obtain ⟨C, fa, fd, ps, kc, mt, F, hb⟩ := me.ex
  have F' : FnG X.prog X.w X.K X.mg X.base k fa fd ps (spF c.toBase [] g) := by rw [z.P, z.w, z.K, z.mg, z.base]; exact F
  refine pe_imp (pe_methX (pl := pl X.env) (ho G X W z) (by rw [z.K]; exact kc.c) (by rw [z.K]; exact mt) F' ((z.cold hc).mono hk) z.gd (by rw [z.K]; exact hb) (fun σ => passAt z.tk σ) (ha G X W z) (hst _) (hpl _) (ht _)) fun σ H Q ⟨F0, ρ, R, q⟩ => ?_
  refine tG_bind R q fun F1 H1 ρ1 x dx s1 R1 rx q1 => ?_
  split at q1
  case isFalse => exact q1.elim
  rename_i hc
  obtain ⟨a, C', dx', vs', fs', rfl, rfl, g1, h1, r1, hn⟩ := okIns_of hc rx
  have := kc.same g1
  subst this
  refine ⟨_, _, _, rfl, R1.fh _ _ h1, hn, ?_⟩
  refine tG_bind R1 q1 fun F2 H2 ρ2 vs ds s2 R2 rvs q3 => ?_
  exact post_cal R2 (.cons (rx.mono s2) rvs) q3
/-! ### properties -/
structure PropD (b : Base) (k : Nat) (cl m : String) (g : List D → OutF) : Prop where
  ex : ∃ C p f fd ps, ClD b cl C ∧ PropOf b.K C (Str.ofString m) p f ∧ FnG b.P b.w b.K b.mg b.base k f fd ps (spF b [] g) ∧ Binds b.K fd ps []
def isIns (cl : String) : D → Bool
  | .ins c _ => decide (c = cl)
  | _ => false
def proM (cl : String) (g : List D → OutF) (o : M D) : M D := bnd o fun x ρ => if isIns cl x then (match g [x] with
  | .ok d _ => .ok d ρ
  | _ => .bad) else .bad
theorem isIns_of {K : PySem.W.Frag} {mg : Str → Option Value} {F : Hp} {cl : String} {x : V} {d : D} (h : isIns cl d = true) (r : Dn K mg F x d) : ∃ a C dx vs fs, x = .ref a ∧ d = .ins cl fs ∧ mg (Str.ofString cl) = some (.ref C) ∧ F a = some (.ins C dx vs) ∧ Dfs K mg F vs fs := by
  cases r <;> try cases h
  rename_i g1 h1 r1
  simp only [isIns, decide_eq_true_eq] at h
  subst h
  exact ⟨_, _, _, _, _, rfl, rfl, g1, h1, r1⟩
theorem pe_propG {X : Cx} {k : Nat} {C p g : Addr} {f : Str} {fd : FuncData} {ps : List Str} {sp : Sp} {e : Expr} {pos : Pos} {ta : TE} (he : PE X e ta) (c : Cls X.K C) (hp : PropOf X.K C f p g) (F : FnG X.prog X.w X.K X.mg X.base k g fd ps sp) (hr : Room (k + 1) X.A) (hgd : X.A.guards = some []) (hb : Binds X.K fd ps [])
    (hab : attributeBase e f X.env (eval e X.env) = eval e X.env) : PE X (.Attribute e f pos) (tProp C sp [] E0 ta) := by
  refine ⟨fun pins s σ H Q I h => ?_⟩
  refine attr_of hab (thn (he.run pins s σ H _ I h) fun u s1 ⟨x, H1, I1, rx, a, dx, fs, ex, ea, q⟩ => ?_)
  subst ex
  obtain rfl : u = Value.ref a := rx
  obtain ⟨mA, O, _, _, _, _⟩ := ins_get I1.hok ea
  obtain ⟨od, J, _⟩ := O.look
  obtain ⟨rest, hrec⟩ := hp.rec_
  have I2 := I1.tok (s1.toks + 1)
  obtain ⟨cd, hc, _⟩ := PySem.W.any_some c.hd
  have hl := F.len _ _ _ _ q
  refine PySem.W.get_bind I1.kIn J (PySem.W.plainGet_of (c.get f)).1 (PySem.W.findObj_data (by rw [hc]; rfl) hp.at_ hp.get hp.tak) (PySem.W.plainGet_of (c.get f)).2 (wpAny_call (PySem.W.prop_get (s := { s1 with toks := s1.toks + 1 }) I1.kIn hrec ?_))
  refine codeAny_mono (F.run X.A.in1 X.stack { s1 with toks := s1.toks + 1 } H1 ⟨[.ref a], []⟩ [.ref a] [.ref a] Q E0 hr.in1 hgd I2.env0.in1 (hb _ [.ref a] I2.kIn hl) (.cons rfl .nil) q) fun r s' hq => ?_
  have z := CR.end_ (X := X.nox) (I2.wish _) (fun pins H s e s' I c => (passL (X := X.nox) pins σ H s e s' I c)) hq
  cases r with
  | error er => exact z.elim
  | ok fl =>
    cases fl with
    | ret u =>
      obtain ⟨v, H', I3, rv, q3⟩ := I2.after hq
      show wpAny _ _ (handedOut u) _ _ _
      rw [PySem.W.handedOut_of (handed_of rv)]
      exact wpAny_pure ⟨v, H', I3, rv, q3⟩
    | next => exact False.elim hq
    | brk => exact False.elim hq
    | cont => exact False.elim hq
theorem ed_pro {k : Nat} {cl m : String} {g : List D → OutF} {o : Expr} {fo : M D} {pos : Pos} (me : PropD c.toBase k cl m g) (hk : k + 1 ≤ c.k) (ho : ED c o fo) (hb : ∀ env x, attributeBase o (Str.ofString m) env x = x := by intro _ _; rfl) (hc : c.hot = false := by first | rfl | assumption) : ED c (.Attribute o (Str.ofString m) pos) (proM cl g fo) := fun G X W z => by
  obtain ⟨C, p, fa, fd, ps, kc, mt, F, bi⟩ := me.ex
  have F' : FnG X.prog X.w X.K X.mg X.base k fa fd ps (spF c.toBase [] g) := by rw [z.P, z.w, z.K, z.mg, z.base]; exact F
  refine pe_imp (pe_propG (ho G X W z) (by rw [z.K]; exact kc.c) (by rw [z.K]; exact mt) F' ((z.cold hc).mono hk) z.gd (by rw [z.K]; exact bi) (hb _ _)) fun σ H Q ⟨F0, ρ, R, q⟩ => ?_
  refine tG_bind R q fun F1 H1 ρ1 x dx s1 R1 rx q1 => ?_
  split at q1
  case isFalse => exact q1.elim
  rename_i hc
  obtain ⟨a, C', dx', vs', fs', rfl, rfl, g1, h1, r1⟩ := isIns_of hc rx
  have := kc.same g1
  subst this
  refine ⟨_, _, _, rfl, R1.fh _ _ h1, ?_⟩
  refine ⟨F1, [.ins cl fs'], R1.fh, args_pure (.cons rx .nil) R1.tb, ?_⟩
  cases e : g [.ins cl fs'] with
  | bad => simp only [e] at q1; exact q1
  | oko d es => simp only [e] at q1; exact q1.elim
  | ok d es => simp only [e] at q1; exact fun v F' H' f rv => q1 v F' H' f.ff (R1.fin f) rv
  | err x es => simp only [e] at q1; exact q1.elim
/-! ### x in o, o of a class with its own __contains__ -/
def rInI (c : Stat) (C : Addr) (sp : Sp) (E : XK) (neg : Bool) : R2 := fun x y H Q => ∃ a dx fs, y = .ref a ∧ H a = some (.ins C dx fs) ∧ sp [.ref a, x] H (fun v H1 => ∃ b, v = .bl b ∧ Q (.bl (if neg then !b else b)) H1) E
def inI (cl : String) (g : List D → OutF) (neg : Bool) (a b : M D) : M D := bnd a fun x => bnd b fun y ρ => if isIns cl y then (match g [y, x] with
  | .ok (.bl b) _ => .ok (.bl (if neg then !b else b)) ρ
  | _ => .bad) else .bad
theorem op_inI {X : Cx} {k : Nat} {C f : Addr} {fd : FuncData} {ps : List Str} {sp : Sp} (kc : Cls X.K C) (mt : Meth X.K C (Str.ofString "__contains__") f) (F : FnG X.prog X.w X.K X.mg X.base k f fd ps sp) (hr : Room k X.A) (hgd : X.A.guards = some []) (hb : Binds X.K fd ps []) : OpR X (compareOp .In) (rInI c C sp E0 false) := by
  intro pins s σ H x y v u Q I rx ry ⟨a, dx, fs, ey, ea, q⟩
  subst ey
  obtain rfl : u = Value.ref a := ry
  obtain ⟨mA, O, _⟩ := ins_get I.hok ea
  obtain ⟨od, J, _⟩ := O.look
  obtain ⟨m, Fr⟩ := I.fr
  refine PySem.W.in_K Fr I.mod.kin J mt.at_ mt.fn ?_
  refine thn (run_fnG (E := fun _ => E0) (us := [.ref a, v]) (vs := [.ref a, x]) F hr hgd hb (fun pins H s e s' I c => (passL (X := X) pins σ H s e s' I c)) I (.cons rfl (.cons rx .nil)) q) fun r s1 ⟨w, H1, I1, rw1, b, ew, q1⟩ => ?_
  subst ew
  obtain rfl : r = Value.bool b := rw1
  exact thn (L2.tru_ok pins s1 σ H1 (.bl b) (.bool b) (fun k H2 => k = b ∧ H2 = H1) I1 rfl ⟨b, rfl, rfl, rfl⟩) fun k s2 ⟨H2, I2, hk, hH⟩ => by
    subst hk hH
    exact ⟨.bl _, _, I2, rfl, q1⟩
theorem op_notInI {X : Cx} {k : Nat} {C f : Addr} {fd : FuncData} {ps : List Str} {sp : Sp} (kc : Cls X.K C) (mt : Meth X.K C (Str.ofString "__contains__") f) (F : FnG X.prog X.w X.K X.mg X.base k f fd ps sp) (hr : Room k X.A) (hgd : X.A.guards = some []) (hb : Binds X.K fd ps []) : OpR X (compareOp .NotIn) (rInI c C sp E0 true) := by
  intro pins s σ H x y v u Q I rx ry ⟨a, dx, fs, ey, ea, q⟩
  subst ey
  obtain rfl : u = Value.ref a := ry
  obtain ⟨mA, O, _⟩ := ins_get I.hok ea
  obtain ⟨od, J, _⟩ := O.look
  obtain ⟨m, Fr⟩ := I.fr
  refine PySem.W.notIn_K Fr I.mod.kin J mt.at_ mt.fn ?_
  refine thn (run_fnG (E := fun _ => E0) (us := [.ref a, v]) (vs := [.ref a, x]) F hr hgd hb (fun pins H s e s' I c => (passL (X := X) pins σ H s e s' I c)) I (.cons rfl (.cons rx .nil)) q) fun r s1 ⟨w, H1, I1, rw1, b, ew, q1⟩ => ?_
  subst ew
  obtain rfl : r = Value.bool b := rw1
  exact thn (L2.tru_ok pins s1 σ H1 (.bl b) (.bool b) (fun k H2 => k = b ∧ H2 = H1) I1 rfl ⟨b, rfl, rfl, rfl⟩) fun k s2 ⟨H2, I2, hk, hH⟩ => by
    subst hk hH
    exact ⟨.bl _, _, I2, rfl, q1⟩
theorem ed_inI {neg : Bool} {op : CmpOp} (hop : (op = .In ∧ neg = false) ∨ (op = .NotIn ∧ neg = true)) {k : Nat} {cl : String} {g : List D → OutF} {a b : Expr} {fa fb : M D} {pos : Pos} (me : MetD c.toBase k cl "__contains__" [] g) (hk : k ≤ c.k) (ha : ED c a fa) (hb : ED c b fb) (hm : behindInMarks op b = false := by rfl) (hc : c.hot = false := by first | rfl | assumption) : ED c (.Compare a [op] [b] pos) (inI cl g neg fa fb) := fun G X W z => by
  obtain ⟨C, f, fd, ps, kc, mt, F, bi⟩ := me.ex
  have F' : FnG X.prog X.w X.K X.mg X.base k f fd ps (spF c.toBase [] g) := by rw [z.P, z.w, z.K, z.mg, z.base]; exact F
  have o : OpR X (compareOp op) (rInI c C (spF c.toBase [] g) E0 neg) := by
    rcases hop with ⟨rfl, rfl⟩ | ⟨rfl, rfl⟩
    · exact op_inI (by rw [z.K]; exact kc.c) (by rw [z.K]; exact mt) F' ((z.cold hc).mono hk) z.gd (by rw [z.K]; exact bi)
    · exact op_notInI (by rw [z.K]; exact kc.c) (by rw [z.K]; exact mt) F' ((z.cold hc).mono hk) z.gd (by rw [z.K]; exact bi)
  refine pe_imp (pe_cmpR o (ha G X W z) (hb G X W z) hm) fun σ H Q ⟨F0, ρ, R, q⟩ => ?_
  refine tG_bind R q fun F1 H1 ρ1 x dx s1 R1 rx q1 => ?_
  refine tG_bind R1 q1 fun F2 H2 ρ2 y dy s2 R2 ry q2 => ?_
  split at q2
  case isFalse => exact q2.elim
  rename_i hc
  obtain ⟨ad, C', dx', vs', fs', rfl, rfl, g1, h1, r1⟩ := isIns_of hc ry
  have := kc.same g1
  subst this
  refine ⟨_, _, _, rfl, R2.fh _ _ h1, F2, [.ins cl fs', dx], R2.fh, args_pure (.cons ry (.cons (rx.mono s2) .nil)) R2.tb, ?_⟩
  cases e : g [.ins cl fs', dx] with
  | bad => simp only [e] at q2; exact q2
  | oko d es => simp only [e] at q2; exact q2.elim
  | err x es => simp only [e] at q2; exact q2.elim
  | ok d es =>
    simp only [e] at q2
    cases d <;> try exact q2.elim
    intro v F' H' f rv
    cases rv
    exact ⟨_, rfl, q2 _ F' H' f.ff (R2.fin f) (.bl _)⟩
/-- as a test -/
theorem et_inI {neg : Bool} {op : CmpOp} (hop : (op = .In ∧ neg = false) ∨ (op = .NotIn ∧ neg = true)) {k : Nat} {cl : String} {g : List D → OutF} {a b : Expr} {fa fb : M D} {pos : Pos} (me : MetD c.toBase k cl "__contains__" [] g) (hk : k ≤ c.k) (ha : ED c a fa) (hb : ED c b fb) (hm : behindInMarks op b = false := by rfl) (hc : c.hot = false := by first | rfl | assumption) : ET c (.Compare a [op] [b] pos) (tbM (inI cl g neg fa fb)) := fun G X W z => by
  obtain ⟨C, f, fd, ps, kc, mt, F, bi⟩ := me.ex
  have F' : FnG X.prog X.w X.K X.mg X.base k f fd ps (spF c.toBase [] g) := by rw [z.P, z.w, z.K, z.mg, z.base]; exact F
  have o : OpR X (compareOp op) (rInI c C (spF c.toBase [] g) E0 neg) := by
    rcases hop with ⟨rfl, rfl⟩ | ⟨rfl, rfl⟩
    · exact op_inI (by rw [z.K]; exact kc.c) (by rw [z.K]; exact mt) F' ((z.cold hc).mono hk) z.gd (by rw [z.K]; exact bi)
    · exact op_notInI (by rw [z.K]; exact kc.c) (by rw [z.K]; exact mt) F' ((z.cold hc).mono hk) z.gd (by rw [z.K]; exact bi)
  refine pt_imp (pt_cmpR o (ha G X W z) (hb G X W z) hm) fun σ H Q h => tbM_test h fun ⟨F0, ρ, R, q⟩ => ?_
  refine tG_bind R q fun F1 H1 ρ1 x dx s1 R1 rx q1 => ?_
  refine tG_bind R1 q1 fun F2 H2 ρ2 y dy s2 R2 ry q2 => ?_
  split at q2
  case isFalse => exact q2.elim
  rename_i hc
  obtain ⟨ad, C', dx', vs', fs', rfl, rfl, g1, h1, r1⟩ := isIns_of hc ry
  have := kc.same g1
  subst this
  refine ⟨_, _, _, rfl, R2.fh _ _ h1, F2, [.ins cl fs', dx], R2.fh, args_pure (.cons ry (.cons (rx.mono s2) .nil)) R2.tb, ?_⟩
  cases e : g [.ins cl fs', dx] with
  | bad => simp only [e] at q2; exact q2
  | oko d es => simp only [e] at q2; exact q2.elim
  | err x es => simp only [e] at q2; exact q2.elim
  | ok d es =>
    simp only [e] at q2
    cases d <;> try exact q2.elim
    intro v F' H' f rv
    cases rv
    exact ⟨_, rfl, q2 _ F' H' f.ff (R2.fin f) (.bl _)⟩
end
end DL

namespace DL
open PySem L2
/-! ### plain lists of plain things -/
def bools : List D → Option (List Bool)
  | [] => some []
  | .bl b :: r => (bools r).map (b :: ·)
  | _ => none
def asStrs : List D → Option (List Cs)
  | [] => some []
  | .str b :: r => (asStrs r).map (b :: ·)
  | _ => none
def asInts : List D → Option (List Int)
  | [] => some []
  | .int b :: r => (asInts r).map (b :: ·)
  | _ => none
section
variable {K : PySem.W.Frag} {mg : Str → Option Value} {F : Hp}
theorem bools_of : ∀ {vs : List V} {ds : List D} {bs : List Bool}, Dns K mg F vs ds → bools ds = some bs → vs = bs.map V.bl ∧ ds = bs.map D.bl
  | _, _, bs, .nil, h => by cases h; exact ⟨rfl, rfl⟩
  | _, d :: ds, bs, .cons h r, e => by
    cases d <;> try cases e
    rename_i b
    cases q : bools ds with
    | none => simp [bools, q] at e
    | some l =>
      simp [bools, q] at e
      subst e
      cases h
      obtain ⟨h1, h2⟩ := bools_of r q
      rw [h1, h2]
      exact ⟨rfl, rfl⟩
theorem ints_of : ∀ {vs : List V} {ds : List D} {bs : List Int}, Dns K mg F vs ds → asInts ds = some bs → vs = bs.map V.int ∧ ds = bs.map D.int
  | _, _, bs, .nil, h => by cases h; exact ⟨rfl, rfl⟩
  | _, d :: ds, bs, .cons h r, e => by
    cases d <;> try cases e
    rename_i b
    cases q : asInts ds with
    | none => simp [asInts, q] at e
    | some l =>
      simp [asInts, q] at e
      subst e
      cases h
      obtain ⟨h1, h2⟩ := ints_of r q
      rw [h1, h2]
      exact ⟨rfl, rfl⟩
theorem strs_of : ∀ {vs : List V} {ds : List D} {bs : List Cs}, Dns K mg F vs ds → asStrs ds = some bs → vs = (bs.map toS).map V.str ∧ ds = bs.map D.str ∧ ∀ b ∈ bs, okS b
  | _, _, bs, .nil, h => by cases h; exact ⟨rfl, rfl, fun _ z => nomatch z⟩
  | _, d :: ds, bs, .cons h r, e => by
    cases d <;> try cases e
    rename_i b
    cases q : asStrs ds with
    | none => simp [asStrs, q] at e
    | some l =>
      simp [asStrs, q] at e
      subst e
      cases h
      rename_i hb
      obtain ⟨h1, h2, h3⟩ := strs_of r q
      rw [h1, h2]
      refine ⟨rfl, rfl, fun c hc => ?_⟩
      rcases List.mem_cons.mp hc with z | z
      · rw [z]; exact hb
      · exact h3 c z
theorem dns_ints : ∀ (ns : List Int), Dns K mg F (ns.map V.int) (ns.map D.int)
  | [] => .nil
  | n :: r => .cons (.int n) (dns_ints r)
theorem dns_bls : ∀ (ns : List Bool), Dns K mg F (ns.map V.bl) (ns.map D.bl)
  | [] => .nil
  | n :: r => .cons (.bl n) (dns_bls r)
theorem dns_strs : ∀ {cs : List Cs}, (∀ c ∈ cs, okS c) → Dns K mg F ((cs.map toS).map V.str) (cs.map D.str)
  | [], _ => .nil
  | n :: r, h => .cons (.str n (h n List.mem_cons_self)) (dns_strs fun c hc => h c (List.mem_cons_of_mem _ hc))
end
theorem strs_map (l : List Cs) : asStrs (l.map D.str) = some l := by
  induction l with
  | nil => rfl
  | cons a r ih => simp [asStrs, ih]
theorem bools_map (l : List Bool) : bools (l.map D.bl) = some l := by
  induction l with
  | nil => rfl
  | cons a r ih => simp [bools, ih]
theorem ints_map (l : List Int) : asInts (l.map D.int) = some l := by
  induction l with
  | nil => rfl
  | cons a r ih => simp [asInts, ih]
/-! ### sorting -/
def insert' {α : Type} (le : α → α → Bool) (x : α) : List α → List α
  | [] => [x]
  | y :: r => if le x y then x :: y :: r else y :: insert' le x r
def isort {α : Type} (le : α → α → Bool) : List α → List α
  | [] => []
  | x :: r => insert' le x (isort le r)
theorem insert_perm {α : Type} (le : α → α → Bool) (x : α) : ∀ l : List α, (insert' le x l).Perm (x :: l)
  | [] => .refl _
  | y :: r => by
    unfold insert'
    split
    · exact .refl _
    · exact ((insert_perm le x r).cons y).trans (.swap ..)
theorem isort_perm {α : Type} (le : α → α → Bool) : ∀ l : List α, (isort le l).Perm l
  | [] => .refl _
  | x :: r => (insert_perm le x _).trans ((isort_perm le r).cons x)
theorem insert_sorted {α : Type} {le : α → α → Bool} (tr : ∀ a b c, le a b = true → le b c = true → le a c = true) (tot : ∀ a b, le a b = true ∨ le b a = true) (x : α) : ∀ {l : List α}, l.Pairwise (fun a b => le a b = true) → (insert' le x l).Pairwise (fun a b => le a b = true)
  | [], _ => List.pairwise_singleton _ _
  | y :: r, h => by
    unfold insert'
    split
    · rename_i hx
      refine List.pairwise_cons.mpr ⟨fun a ha => ?_, h⟩
      rcases List.mem_cons.mp ha with z | z
      · rw [z]; exact hx
      · exact tr _ _ _ hx ((List.pairwise_cons.mp h).1 a z)
    · rename_i hx
      have hyx : le y x = true := (tot y x).resolve_right hx
      refine List.pairwise_cons.mpr ⟨fun a ha => ?_, insert_sorted tr tot x (List.pairwise_cons.mp h).2⟩
      rcases List.mem_cons.mp ((insert_perm le x r).mem_iff.mp ha) with z | z
      · rw [z]; exact hyx
      · exact (List.pairwise_cons.mp h).1 a z
theorem isort_sorted {α : Type} {le : α → α → Bool} (tr : ∀ a b c, le a b = true → le b c = true → le a c = true) (tot : ∀ a b, le a b = true ∨ le b a = true) : ∀ l : List α, (isort le l).Pairwise (fun a b => le a b = true)
  | [] => .nil
  | x :: r => insert_sorted tr tot x (isort_sorted tr tot r)
theorem isort_eq {α : Type} {le : α → α → Bool} (tr : ∀ a b c, le a b = true → le b c = true → le a c = true) (tot : ∀ a b, le a b = true ∨ le b a = true) (anti : ∀ a b, le a b = true → le b a = true → a = b) {l l' : List α} (p : l'.Perm l) (s : l'.Pairwise (fun a b => le a b = true)) : l' = isort le l :=
  List.Perm.eq_of_pairwise (le := fun a b => le a b = true) (fun a b _ _ => anti a b) s (isort_sorted tr tot l) (p.trans (isort_perm le l).symm)
def leI (a b : Int) : Bool := decide (a ≤ b)
def leS (a b : Cs) : Bool := !decide (b < a)
theorem leS_tr (a b c : Cs) (h1 : leS a b = true) (h2 : leS b c = true) : leS a c = true := by
  simp [leS] at *
  exact List.le_trans h1 h2
theorem leS_tot (a b : Cs) : leS a b = true ∨ leS b a = true := by
  simp [leS]
  exact List.le_total a b
theorem leS_anti (a b : Cs) (h1 : leS a b = true) (h2 : leS b a = true) : a = b := by
  simp [leS] at *
  exact List.le_antisymm h1 h2
theorem leI_tr (a b c : Int) (h1 : leI a b = true) (h2 : leI b c = true) : leI a c = true := by
  simp [leI] at *; omega
theorem leI_tot (a b : Int) : leI a b = true ∨ leI b a = true := by
  simp [leI]; omega
theorem leI_anti (a b : Int) (h1 : leI a b = true) (h2 : leI b a = true) : a = b := by
  simp [leI] at *; omega
def sortS : List Cs → List Cs := isort leS
def sortI : List Int → List Int := isort leI
open PySem.Spec PyProof.Rows in
theorem rising_pw : ∀ (p : Str) (l : List Str), risingS p l = true → ((p :: l).map (·.cps.toList)).Pairwise (fun a b => leS a b = true)
  | p, [], _ => List.pairwise_singleton _ _
  | p, x :: r, h => by
    unfold risingS at h
    simp only [Bool.and_eq_true, Bool.not_eq_true'] at h
    have ih := rising_pw x r h.2
    have hx : leS p.cps.toList x.cps.toList = true := by
      have := h.1
      rw [ltCps_eq] at this
      unfold leS
      rw [this]; rfl
    simp only [List.map_cons] at ih ⊢
    refine List.pairwise_cons.mpr ⟨fun a ha => ?_, ih⟩
    rcases List.mem_cons.mp ha with z | z
    · rw [z]; exact hx
    · exact leS_tr _ _ _ hx ((List.pairwise_cons.mp ih).1 a z)
open PySem.Spec PyProof.Rows in
theorem sortedS_eq {ys : List Str} {cs : List Cs} (p : ys.Perm (cs.map toS)) (h : sortedS ys = true) : ys = (sortS cs).map toS := by
  have e : ys.map (·.cps.toList) = sortS cs := by
    refine isort_eq leS_tr leS_tot leS_anti ?_ ?_
    · have := p.map (fun s : Str => s.cps.toList)
      rw [List.map_map] at this
      refine this.trans ?_
      rw [show ((fun s : Str => s.cps.toList) ∘ toS) = id from funext fun c => by simp [toS]]
      rw [List.map_id]
    · cases ys with
      | nil => exact .nil
      | cons y r => exact rising_pw y r h
  rw [← e, List.map_map]
  rw [show (toS ∘ fun s : Str => s.cps.toList) = id from funext fun c => by cases c; simp [toS]]
  rw [List.map_id]
section
variable {c : Stat}
/-! ### built-in functions -/
def dLen : List D → Option D
  | [.str cs] => some (.int cs.length)
  | [.lst xs] => some (.int xs.length)
  | [.tup xs] => some (.int xs.length)
  | _ => none
theorem b_len : BCl c (.builtin "len") dLen := fun X W z => ⟨_, call_len, by
  intro F H xs ds d Q s r e a
  cases r with
  | nil => cases e
  | cons h r =>
    cases r with
    | cons _ _ => cases h <;> cases e
    | nil =>
      cases h <;> simp only [dLen] at e <;> try cases e
      · rename_i h1
        exact ⟨_, _, rfl, ⟨by rw [sz_eq, toS_length]; exact h1.1, (toS_length _).symm⟩, a.here s (.int _)⟩
      · rename_i h1 r1 l1
        refine ⟨_, _, rfl, .inr ⟨_, by rw [z.K]; exact same_t s h1, rfl⟩, ?_⟩
        rw [r1.length]
        exact a.here s (.int _)
      · rename_i h1 r1 l1
        refine ⟨_, _, rfl, .inl ⟨_, .inl (same_rd s h1), rfl⟩, ?_⟩
        rw [r1.length]
        exact a.here s (.int _)⟩
/-- one argument -/
theorem r1 {rV : List V → Hp → VK → Prop} {r : D → Option D} (h : ∀ F H x dx d Q, Same F H → Dn c.K c.mg F x dx → r dx = some d → After c F H d Q → rV [x] H Q) : RLok c rV (fun ds => match ds with
    | [x] => r x
    | _ => none) := by
  intro F H xs ds d Q s rx e a
  cases rx with
  | nil => cases e
  | cons h1 rx =>
    cases rx with
    | nil => exact h F H _ _ d Q s h1 e a
    | cons _ _ => cases e
def on1 (r : D → Option D) : List D → Option D := fun ds => match ds with
  | [x] => r x
  | _ => none
def dAbs : D → Option D
  | .int i => some (.int (if i < 0 then -i else i))
  | _ => none
theorem b_abs : BCl c (.builtin "abs") (on1 dAbs) := fun X W z => ⟨_, call_abs, r1 fun F H x dx d Q s h e a => by
  cases h <;> simp only [dAbs] at e <;> cases e
  exact ⟨_, rfl, a.here s (.int _)⟩⟩
def dInt : D → Option D
  | .int i => some (.int i)
  | .bl b => some (.int (if b then 1 else 0))
  | _ => none
theorem b_int : BCl c (.type "int") (on1 dInt) := fun X W z => ⟨_, call_int1, r1 fun F H x dx d Q s h e a => by
  cases h <;> simp only [dInt] at e <;> cases e
  · exact .inr ⟨_, rfl, a.here s (.int _)⟩
  · exact .inl ⟨_, rfl, a.here s (.int _)⟩⟩
def dMax2 : List D → Option D
  | [.int i, .int j] => some (.int (if j > i then j else i))
  | _ => none
def dMin2 : List D → Option D
  | [.int i, .int j] => some (.int (if j < i then j else i))
  | _ => none
theorem two_ints {F : Hp} {xs : List V} {ds : List D} {r : Int → Int → D} {g : List D → Option D} (hg : ∀ ds d, g ds = some d → ∃ i j, ds = [.int i, .int j] ∧ d = r i j) {d : D} (h : Dns c.K c.mg F xs ds) (e : g ds = some d) : ∃ i j, xs = [.int i, .int j] ∧ d = r i j := by
  obtain ⟨i, j, rfl, rfl⟩ := hg _ _ e
  cases h with
  | cons h1 h =>
    cases h with
    | cons h2 h =>
      cases h
      cases h1
      cases h2
      exact ⟨_, _, rfl, rfl⟩
theorem max2_shape (ds : List D) (d : D) (e : dMax2 ds = some d) : ∃ i j, ds = [.int i, .int j] ∧ d = .int (if j > i then j else i) := by
  unfold dMax2 at e
  split at e
  · cases e; exact ⟨_, _, rfl, rfl⟩
  · cases e
theorem min2_shape (ds : List D) (d : D) (e : dMin2 ds = some d) : ∃ i j, ds = [.int i, .int j] ∧ d = .int (if j < i then j else i) := by
  unfold dMin2 at e
  split at e
  · cases e; exact ⟨_, _, rfl, rfl⟩
  · cases e
theorem b_max2 (hc : c.hot = false := by first | rfl | assumption) : BCl c (.builtin "max") dMax2 := fun X W z => ⟨_, call_max2 (z.calm hc), fun F H xs ds d Q s r e a => by
  obtain ⟨i, j, rfl, rfl⟩ := two_ints max2_shape r e
  exact ⟨i, j, rfl, a.here s (.int _)⟩⟩
theorem b_min2 (hc : c.hot = false := by first | rfl | assumption) : BCl c (.builtin "min") dMin2 := fun X W z => ⟨_, call_min2 (z.calm hc), fun F H xs ds d Q s r e a => by
  obtain ⟨i, j, rfl, rfl⟩ := two_ints min2_shape r e
  exact ⟨i, j, rfl, a.here s (.int _)⟩⟩
def dAll : D → Option D
  | .lst xs => (bools xs).map fun bs => .bl (bs.all id)
  | _ => none
def dAny : D → Option D
  | .lst xs => (bools xs).map fun bs => .bl (bs.any id)
  | _ => none
theorem b_all (hc : c.hot = false := by first | rfl | assumption) : BCl c (.builtin "all") (on1 dAll) := fun X W z => ⟨_, cr_all (z.calm hc), r1 fun F H x dx d Q s h e a => by
  cases h <;> simp only [dAll] at e <;> try cases e
  rename_i h1 r1 l1
  obtain ⟨bs, hb, rfl⟩ := Option.map_eq_some_iff.mp e
  obtain ⟨rfl, _⟩ := bools_of r1 hb
  exact ⟨_, bs, rfl, .inl (same_rd s h1), a.here s (.bl _)⟩⟩
theorem b_any (hc : c.hot = false := by first | rfl | assumption) : BCl c (.builtin "any") (on1 dAny) := fun X W z => ⟨_, cr_any (z.calm hc), r1 fun F H x dx d Q s h e a => by
  cases h <;> simp only [dAny] at e <;> try cases e
  rename_i h1 r1 l1
  obtain ⟨bs, hb, rfl⟩ := Option.map_eq_some_iff.mp e
  obtain ⟨rfl, _⟩ := bools_of r1 hb
  exact ⟨_, bs, rfl, .inl (same_rd s h1), a.here s (.bl _)⟩⟩
def dTuple : D → Option D
  | .lst xs => some (.tup xs)
  | .tup xs => some (.tup xs)
  | _ => none
def dSum : D → Option D
  | .lst xs => (asInts xs).map fun bs => .int bs.sum
  | _ => none
theorem b_sum (hc : c.hot = false := by first | rfl | assumption) : BCl c (.builtin "sum") (on1 dSum) := fun X W z => ⟨_, cr_sum (z.calm hc), r1 fun F H x dx d Q s h e a => by
  cases h <;> simp only [dSum] at e <;> try cases e
  rename_i h1 r1 l1
  obtain ⟨bs, hb, rfl⟩ := Option.map_eq_some_iff.mp e
  obtain ⟨rfl, _⟩ := ints_of r1 hb
  exact ⟨_, bs, rfl, .inl (same_rd s h1), a.here s (.int _)⟩⟩
/-- sorted(list of texts, fewer than 64 | list of asInts) -/
def dSorted : D → Option D
  | .lst xs => match asStrs xs with
    | some ss => if ss.length < 64 then some (.lst ((sortS ss).map .str)) else none
    | none => (asInts xs).map fun ns => .lst ((sortI ns).map .int)
  | _ => none
theorem sortS_mem {l : List Cs} {x : Cs} : x ∈ sortS l ↔ x ∈ l := (isort_perm leS l).mem_iff
theorem sortS_len (l : List Cs) : (sortS l).length = l.length := (isort_perm leS l).length_eq
theorem sortI_len (l : List Int) : (sortI l).length = l.length := (isort_perm leI l).length_eq
theorem b_sorted : BCl c (.builtin "sorted") (on1 dSorted) := fun X W z => ⟨_, CallR.or cr_sortedS cr_sortedI, r1 fun F H x dx d Q s h e a => by
  cases h <;> simp only [dSorted] at e <;> try cases e
  rename_i h1 r1 l1
  split at e
  · rename_i ss hs
    split at e
    case isFalse => cases e
    rename_i h64
    cases e
    obtain ⟨rfl, rfl, hk⟩ := strs_of r1 hs
    refine .inl ⟨_, ss.map toS, rfl, .inl (same_rd s h1), by simpa using h64, fun ys p hp hsr hn => ?_⟩
    rw [sortedS_eq hp hsr]
    exact after_lst s a hn (dns_strs fun c hc => hk c (sortS_mem.mp hc)) (by rw [List.length_map, sortS_len]; simpa using l1)
  · obtain ⟨bs, hb, rfl⟩ := Option.map_eq_some_iff.mp e
    obtain ⟨rfl, rfl⟩ := ints_of r1 hb
    refine .inr ⟨_, bs, rfl, .inl (same_rd s h1), fun ys p hp hsr hn => ?_⟩
    rw [isort_eq leI_tr leI_tot leI_anti hp (hsr.imp fun {a b} h => by simpa [leI] using h)]
    exact after_lst s a hn (dns_ints _) (by rw [List.length_map]; show (sortI bs).length ≤ sz; rw [sortI_len]; simpa using l1)⟩
end
end DL

namespace DL
open PySem L2
section
variable {c : Stat}
/-! ### names of the module and of the language -/
theorem ed_glob {x : Str} {v : V} {u : Value} {d : D} {pos : Pos} (hg : Gn c x) (hm : c.mg x = some u) (r : RelV v u) (h : ∀ F, Dn c.K c.mg F v d) (hd : (x == ("__debug__" : Str)) = false := by decide) : ED c (.Name x pos) (cn d) := fun G X W z =>
  pe_imp (pe_glob (hg.gl z) (by rw [z.mg]; exact hm) r hd) fun σ H Q ⟨F, ρ, R, q⟩ => q v F H (Same.refl _) R (h F)
theorem ed_gint {x : Str} {i : Int} {t : Tok} {pos : Pos} (hg : Gn c x) (hm : c.mg x = some (.int i t)) (hd : (x == ("__debug__" : Str)) = false := by decide) : ED c (.Name x pos) (cn (.int i)) := ed_glob (v := .int i) hg hm ⟨_, rfl⟩ (fun _ => .int i) hd
theorem ed_gstr {x : Str} {cs : Cs} {t : Tok} {pos : Pos} (hg : Gn c x) (hm : c.mg x = some (.str (toS cs) t)) (hk : okS cs) (hd : (x == ("__debug__" : Str)) = false := by decide) : ED c (.Name x pos) (cn (.str cs)) := ed_glob (v := .str (toS cs)) hg hm ⟨_, rfl⟩ (fun _ => .str cs hk) hd
theorem ed_gcls {x : String} {C : Addr} {pos : Pos} (hg : Gn c (Str.ofString x)) (hm : c.mg (Str.ofString x) = some (.ref C)) (hd : (Str.ofString x == ("__debug__" : Str)) = false := by decide) : ED c (.Name (Str.ofString x) pos) (cn (.gl x)) := ed_glob (v := .ref C) hg hm rfl (fun _ => .gl hm) hd
theorem ed_ty {x : Str} {T : String} {pos : Pos} (hg : Gn c x) (hm : c.mg x = none) (hv : bootBuiltins x = some (.type T)) (hn : x ≠ "__name__" := by decide) (hd : (x == ("__debug__" : Str)) = false := by decide) : ED c (.Name x pos) (cn (.ty T)) := fun G X W z =>
  pe_imp (pe_bltn (v := .ty T) (hg.gl z) (by rw [z.mg]; exact hm) hv rfl hn hd) fun σ H Q ⟨F, ρ, R, q⟩ => q _ F H (Same.refl _) R (.ty T)
/-! ### methods of texts -/
def isStr : D → Bool
  | .str _ => true
  | _ => false
def opMt (T : D → Bool) (r : D → List D → Option D) (o : M D) (a : M (List D)) : M D := bnd o fun x => if T x then bnd a fun xs => lift (r x xs) else fun _ => .bad
def RMok (c : Stat) (rV : V → List V → Hp → VK → Prop) (r : D → List D → Option D) : Prop := ∀ F H x dx xs ds d Q, Same F H → Dn c.K c.mg F x dx → Dns c.K c.mg F xs ds → r dx ds = some d → After c F H d Q → rV x xs H Q
def MCl (c : Stat) (id : String) (r : D → List D → Option D) : Prop := ∀ X W, Cz c X W → ∃ rV, MtR X id rV ∧ RMok c rV r
theorem ed_strm {id : String} {name : Str} {r : D → List D → Option D} {o e : Expr} {es : List Expr} {fo : M D} {f : M (List D)} {apos cpos : Pos} (hm : MCl c id r) (slot : Slot "str" name id) (hty : typeOf (.builtin id) = pure (.type "method_descriptor")) (ho : ED c o fo) (ha : EA c (e :: es) f)
    (hbase : ∀ env, attributeBase o name env (eval o env) = eval o env := by intro _; rfl)
    (hfew : ∀ env, ((backTo cpos (starEach (e :: es) env)).all (fun x => !x.1) && (backToKw cpos (keywordEach [] env)).all (fun x => x.1.isSome) && decide ((e :: es).length + ([] : List Keyword).length + (if ([] : List Keyword).isEmpty then 0 else 1) < 30)) = true := by intro _; rfl)
    (hline : (apos.endLine == cpos.line) = true := by rfl) (hs : ∀ env, starEach (e :: es) env = (false, eval e env) :: starEach es env := by intro _; rfl) (hpl : ∀ env, (backTo cpos (starEach es env)).any (·.1) = false := by intro _; rfl) :
    ED c (.Call (.Attribute o name apos) (e :: es) [] cpos) (opMt isStr r fo f) := fun G X W z => by
  obtain ⟨rV, mt, ok⟩ := hm X W z
  refine pe_imp (pe_bm PySem.F.plainAttrs_str slot hty mt (ho G X W z) (ha G X W z) (hbase _) (hfew _) hline (hs _) (hpl _)) fun σ H Q ⟨F, ρ, R, q⟩ => ?_
  refine tG_bind R q fun F1 H1 ρ1 x dx s1 R1 rx q1 => ?_
  split at q1
  case isFalse => exact q1.elim
  rename_i ht
  refine ⟨?_, ?_⟩
  · cases rx <;> first | rfl | cases ht
  · refine tG_bind R1 q1 fun F2 H2 ρ2 xs ds s2 R2 rxs q2 => ?_
    obtain ⟨d, e, af⟩ := q2.lift R2
    exact ok F2 H2 x dx xs ds d Q R2.fh (rx.mono s2) rxs e af
/-- sep.join(list or tuple of texts) -/
def joinCs (sep : Cs) : List Cs → Cs
  | [] => []
  | [x] => x
  | x :: r => x ++ sep ++ joinCs sep r
theorem join_toS (sep : Cs) : ∀ l : List Cs, Str.join (toS sep) (l.map toS) = toS (joinCs sep l)
  | [] => rfl
  | [x] => rfl
  | x :: y :: r => by
    have ih := join_toS sep (y :: r)
    simp only [List.map_cons] at ih ⊢
    unfold Str.join joinCs
    rw [ih]
    apply Str.ext'
    simp [toS, Str.cps_append]
theorem joinCs_len (sep : Cs) : ∀ l : List Cs, (joinCs sep l).length ≤ (l.map List.length).sum + l.length * sep.length
  | [] => by simp [joinCs]
  | [x] => by simp [joinCs]
  | x :: y :: r => by
    have ih := joinCs_len sep (y :: r)
    simp only [joinCs, List.length_append, List.map_cons, List.sum_cons, List.length_cons] at ih ⊢
    rw [Nat.succ_mul]
    omega
theorem joinCs_mem (sep : Cs) {n : Nat} : ∀ l : List Cs, n ∈ joinCs sep l → n ∈ sep ∨ ∃ x ∈ l, n ∈ x
  | [], h => by simp [joinCs] at h
  | [x], h => .inr ⟨x, by simp, h⟩
  | x :: y :: r, h => by
    simp only [joinCs, List.mem_append] at h
    rcases h with (h | h) | h
    · exact .inr ⟨x, by simp, h⟩
    · exact .inl h
    · rcases joinCs_mem sep (y :: r) h with q | ⟨z, q1, q2⟩
      · exact .inl q
      · exact .inr ⟨z, List.mem_cons_of_mem _ q1, q2⟩
theorem joinCs_ok {sep : Cs} {l : List Cs} (hs : okS sep) (hl : ∀ x ∈ l, okS x) (h : (l.map List.length).sum + l.length * sep.length ≤ sz) : okS (joinCs sep l) := by
  refine ⟨Nat.le_trans (joinCs_len sep l) h, fun n hn => ?_⟩
  rcases joinCs_mem sep l hn with q | ⟨x, q1, q2⟩
  · exact hs.2 n q
  · exact (hl x q1).2 n q2
def dSeqL : D → Option (List D)
  | .lst xs => some xs
  | .tup xs => some xs
  | _ => none
def dJoin : D → List D → Option D
  | .str a, [x] => ((dSeqL x).bind asStrs).bind fun ss => if (ss.map List.length).sum + ss.length * a.length ≤ sz then some (.str (joinCs a ss)) else none
  | _, _ => none
theorem m_join : MCl c "str.join" dJoin := fun X W z => ⟨_, mt_join, by
  intro F H x dx xs ds d Q s rx rxs e a
  cases rx <;> try (simp only [dJoin] at e; cases e)
  rename_i cs hcs
  cases rxs with
  | nil => simp only [dJoin] at e; cases e
  | cons h1 rxs =>
    cases rxs with
    | cons _ _ => simp only [dJoin] at e; cases e
    | nil =>
      simp only [dJoin] at e
      cases h1 <;> simp only [dSeqL] at e <;> try cases e
      · rename_i h2 r2 l2
        obtain ⟨ss, e1, e2⟩ := Option.bind_eq_some_iff.mp e
        split at e2
        case isFalse => cases e2
        rename_i hz
        cases e2
        obtain ⟨rfl, rfl, hk⟩ := strs_of r2 e1
        refine ⟨_, _, ss.map toS, rfl, rfl, .inr (by rw [z.K]; exact same_t s h2), ?_, ?_⟩
        · rw [List.map_map, List.length_map, toS_length, show ((fun x : Str => x.length) ∘ toS) = List.length from funext toS_length]
          exact hz
        · show Q (.str (Builtin.Str.glued _ _)) H
          rw [StrLaws.glued_eq_join, join_toS]
          exact a.here s (.str _ (joinCs_ok hcs hk hz))
      · rename_i h2 r2 l2
        obtain ⟨ss, e1, e2⟩ := Option.bind_eq_some_iff.mp e
        split at e2
        case isFalse => cases e2
        rename_i hz
        cases e2
        obtain ⟨rfl, rfl, hk⟩ := strs_of r2 e1
        refine ⟨_, _, ss.map toS, rfl, rfl, .inl (.inl (same_rd s h2)), ?_, ?_⟩
        · rw [List.map_map, List.length_map, toS_length, show ((fun x : Str => x.length) ∘ toS) = List.length from funext toS_length]
          exact hz
        · show Q (.str (Builtin.Str.glued _ _)) H
          rw [StrLaws.glued_eq_join, join_toS]
          exact a.here s (.str _ (joinCs_ok hcs hk hz))⟩
/-- text.index(sign), one sign that is there -/
def idx1 (n : Nat) : Cs → Option Nat
  | [] => none
  | m :: r => if m = n then some 0 else (idx1 n r).map (· + 1)
theorem idx1_spec {n : Nat} : ∀ {cs : Cs} {i : Nat}, idx1 n cs = some i → cs[i]? = some n ∧ ∀ j, j < i → cs[j]? ≠ some n
  | [], i, h => by cases h
  | m :: r, i, h => by
    unfold idx1 at h
    split at h
    · rename_i e
      cases h
      subst e
      exact ⟨rfl, fun j hj => by omega⟩
    · rename_i e
      obtain ⟨k, hk, rfl⟩ := Option.map_eq_some_iff.mp h
      obtain ⟨h1, h2⟩ := idx1_spec hk
      refine ⟨by simpa using h1, fun j hj => ?_⟩
      cases j with
      | zero => simp [e]
      | succ j => simpa using h2 j (by omega)
def dIndex : D → List D → Option D
  | .str a, [.str [n]] => (idx1 n a).map fun i => .int (i : Nat)
  | _, _ => none
theorem at_one {cs : Cs} {n i : Nat} : StrLaws.At (toS cs) (toS [n]) (toS cs).length i ↔ cs[i]? = some n := by
  unfold StrLaws.At
  rw [StrLaws.subAt_eq]
  simp only [toS_length, List.length_singleton]
  rw [toS_cps, toS_cps]
  constructor
  · rintro ⟨h1, h2⟩
    have h2 := eq_of_beq h2
    have hi : i < cs.length := by omega
    rw [List.getElem?_eq_getElem hi]
    rw [List.drop_eq_getElem_cons hi, List.take_succ_cons, List.take_zero] at h2
    exact congrArg some (List.cons.inj h2).1
  · intro h
    obtain ⟨hi, e⟩ := List.getElem?_eq_some_iff.mp h
    refine ⟨by omega, ?_⟩
    rw [List.drop_eq_getElem_cons hi, e]
    simp
theorem occ_idx1 {cs : Cs} {n i : Nat} (h : idx1 n cs = some i) : ∃ rest, Builtin.Str.occurrences (toS cs) (toS [n]) 0 (toS cs).length 1 = i :: rest := by
  obtain ⟨h1, h2⟩ := idx1_spec h
  have hi : i < cs.length := (List.getElem?_eq_some_iff.mp h1).1
  rw [StrLaws.occ_eq]
  rcases StrLaws.occ_first (toS cs) (toS [n]) (toS cs).length 1 (Nat.le_refl _) (List.range' 0 ((toS cs).length + 1 - 0)) 0 (fun _ _ => Nat.zero_le _) with ⟨_, hn⟩ | ⟨pre, a, post, e, h0, ha, hn⟩
  · exact absurd (at_one.mpr h1) (hn i (by rw [List.mem_range'_1, toS_length]; omega))
  · have ha' := at_one.mp ha
    have : a = i := by
      rcases Nat.lt_trichotomy a i with q | q | q
      · exact absurd ha' (h2 a q)
      · exact q
      · exact absurd (at_one.mpr h1) (hn i (StrLaws.range'_split e i q))
    subst this
    revert h0
    generalize (forIn (m := Id) (List.range' 0 ((toS cs).length + 1 - 0)) (#[], 0) (StrLaws.occBody (toS cs) (toS [n]) (toS cs).length 1)).run.fst = arr
    intro h0
    have h0' : arr.toList[0]? = some a := by simpa using h0
    cases e : arr.toList with
    | nil => rw [e] at h0'; cases h0'
    | cons x r => rw [e] at h0'; cases h0'; exact ⟨r, rfl⟩
theorem m_index : MCl c "str.index" dIndex := fun X W z => ⟨_, mt_sindex, by
  intro F H x dx xs ds d Q s rx rxs e a
  cases rx <;> try (simp only [dIndex] at e; cases e)
  rename_i cs hcs
  cases rxs with
  | nil => simp only [dIndex] at e; cases e
  | cons h1 rxs =>
    cases rxs with
    | cons _ _ => unfold dIndex at e; split at e <;> first | cases e | (rename_i q; cases q) | (rename_i q _; cases q)
    | nil =>
      cases h1 <;> try (simp only [dIndex] at e; cases e)
      rename_i ns hns
      unfold dIndex at e
      split at e
      · rename_i n q1 q2
        cases q1
        cases q2
        obtain ⟨i, hi, rfl⟩ := Option.map_eq_some_iff.mp e
        obtain ⟨rest, ho⟩ := occ_idx1 hi
        exact ⟨_, _, i, rest, rfl, rfl, ho, a.here s (.int _)⟩
      · cases e⟩
/-! ### repr -/
def shw (d : D) : Cs := (py d).shown.cps.toList
theorem shw_toS (d : D) : (py d).shown = toS (shw d) := by unfold shw toS; simp
def okRep (d : D) : Bool := isP d && decide (dep d ≤ 60) && (py d).showable && decide (okS (shw d))
def dRepr (d : D) : Option D := if okRep d then some (.str (shw d)) else none
mutual
theorem noDict : ∀ d : D, (py d).hasDict = false
  | .non => by simp [py, PyData.hasDict] | .bl _ => by simp [py, PyData.hasDict] | .int _ => by simp [py, PyData.hasDict] | .str _ => by simp [py, PyData.hasDict]
  | .tup xs => by simp [py, PyData.hasDict, noDicts xs] | .lst xs => by simp [py, PyData.hasDict, noDicts xs]
  | .dct _ => by simp [py, PyData.hasDict] | .ins _ _ => by simp [py, PyData.hasDict] | .exc _ _ => by simp [py, PyData.hasDict] | .gl _ => by simp [py, PyData.hasDict] | .ty _ => by simp [py, PyData.hasDict]
theorem noDicts : ∀ d : List D, PyData.hasDictAll (pys d) = false
  | [] => by simp [pys, PyData.hasDictAll]
  | x :: xs => by simp [pys, PyData.hasDictAll, noDict x, noDicts xs]
end
theorem call_reprD {X : Cx} {W : WX} (z : Cz c X W) : CallR X (.builtin "repr") (fun vs H Q => ∃ F x d, Same F H ∧ vs = [x] ∧ Dn c.K c.mg F x d ∧ okRep d = true ∧ Q (.str (toS (shw d))) H) := by
  intro pins s σ H vs us Q I r ⟨F, x, d, e, ev, rx, hk, q⟩
  subst ev
  obtain ⟨u, rfl, ru⟩ := vals1 r
  simp only [okRep, Bool.and_eq_true, decide_eq_true_eq] at hk
  obtain ⟨⟨⟨hp, hd⟩, hs⟩, hok⟩ := hk
  have hx' : Dp X.K H x (py d) := by rw [z.K]; exact rx.dp e hp
  obtain ⟨as, rd⟩ := Dp.reads I _ x u hx' ru
  have hu := z.room.units
  have hsz : (py d).shown.length ≤ sizeLine := by rw [shw_toS, toS_length, sz_eq]; exact hok.1
  have fin : ∀ (h' : Heap) (t : Tok) (tk : Nat), (∀ b o, s.heap.get? b = some o → h'.get? b = some o) → EP X pins σ Q (.str (py d).shown t) { s with heap := h', toks := tk } := fun h' t tk hk =>
    ⟨.str (toS (shw d)), H, I.kept hk, ⟨t, by rw [shw_toS]⟩, q⟩
  cases rx with
  | non =>
    obtain rfl : u = Value.none := ru
    exact PySem.P.repr_of_none (fin s.heap _ _ fun _ _ h => h)
  | bl b =>
    obtain rfl : u = Value.bool b := ru
    refine PySem.P.repr_of_bool ?_
    have := fin s.heap s.toks (s.toks + 1) fun _ _ h => h
    simpa [py, PyData.shown] using this
  | int i =>
    obtain ⟨t, rfl⟩ := ru
    refine PySem.P.repr_of_int (by simpa [py, PyData.showable] using hs) ?_
    have := fin s.heap s.toks (s.toks + 1) fun _ _ h => h
    simpa [py, PyData.shown] using this
  | str cs h =>
    obtain ⟨t, rfl⟩ := ru
    refine PySem.P.repr_of_str ?_ (by simpa [py, PyData.shown] using hsz)
    have := fin s.heap s.toks (s.toks + 1) fun _ _ h => h
    simpa [py, PyData.shown] using this
  | ty n => simp [isP] at hp
  | gl h => simp [isP] at hp
  | dct _ _ _ => simp [isP] at hp
  | ins _ _ _ => simp [isP] at hp
  | exc _ _ _ _ => simp [isP] at hp
  | tup h r l =>
    cases ru
    exact repr_of_reads' rd hs (fun h => absurd h (by rw [noDict]; exact Bool.false_ne_true)) z.gd (by rw [dep_py]; omega) (fun _ _ h => h) (fun h' t tk hk => fin h' t tk hk) hsz
  | lst h r l =>
    cases ru
    exact repr_of_reads' rd hs (fun h => absurd h (by rw [noDict]; exact Bool.false_ne_true)) z.gd (by rw [dep_py]; omega) (fun _ _ h => h) (fun h' t tk hk => fin h' t tk hk) hsz
theorem b_repr : BCl c (.builtin "repr") (on1 dRepr) := fun X W z => ⟨_, call_reprD z, r1 fun F H x dx d Q s h e a => by
  unfold dRepr at e
  split at e
  · rename_i hk
    cases e
    have hk' := hk
    simp only [okRep, Bool.and_eq_true, decide_eq_true_eq] at hk'
    exact ⟨F, x, dx, s, rfl, h, hk, a.here s (.str _ hk'.2)⟩
  · cases e⟩
end
end DL

namespace DL
open PySem L2
/-! ### isinstance -/
structure ClI (b : Base) (cl : String) (C : Addr) : Prop extends ClD b cl C where
  ha : PySem.W.findIn b.K (.ref C) "__class__" = some (some (.builtin "object.__class__"))
  hn : PySem.W.specialIn b.K (.builtin "object.__class__") "__get__" = some (some (.builtin "getset_descriptor.__get__"))
  htk : PySem.W.takesIn b.K (.builtin "object.__class__") = some true
  hm : PySem.W.mroIn b.K C (.type "object") = some true
def tyN : D → Option String
  | .non => some "NoneType" | .bl _ => some "bool" | .int _ => some "int" | .str _ => some "str"
  | .tup _ => some "tuple" | .lst _ => some "list" | .dct _ => some "dict"
  | _ => none
def tys : List String := ["str", "int", "bool", "tuple", "list", "dict"]
def btys : List String := ["NoneType", "bool", "int", "str", "tuple", "list", "dict"]
def isiB (t T : String) : Bool := t == T || (t == "bool" && T == "int")
structure Isi (b : Base) (cls : List String) : Prop where
  cl : ∀ c ∈ cls, ∃ C, ClI b c C
  tb : ∀ c ∈ cls, ∀ C, b.mg (Str.ofString c) = some (.ref C) → ∀ T ∈ tys, PySem.W.kitOne b.K (.ref C) (.type T) = some false
  bt : ∀ c ∈ cls, ∀ C, b.mg (Str.ofString c) = some (.ref C) → ∀ t ∈ btys, PySem.W.kitOne b.K (.type t) (.ref C) = some false
  cc : ∀ c ∈ cls, ∀ c' ∈ cls, ∀ C C', b.mg (Str.ofString c) = some (.ref C) → b.mg (Str.ofString c') = some (.ref C') → PySem.W.kitOne b.K (.ref C) (.ref C') = some (decide (c = c'))
def isiT (cls : List String) (T : String) (x : D) : Option Bool := if tys.contains T then (match tyN x with
  | some t => some (isiB t T)
  | none => match x with
    | .ins c _ => if cls.contains c then some false else none
    | _ => none) else none
def isiC (cls : List String) (cl : String) (x : D) : Option Bool := if cls.contains cl then (match tyN x with
  | some _ => some false
  | none => match x with
    | .ins c _ => if cls.contains c then some (decide (c = cl)) else none
    | _ => none) else none
def dIsi (cls : List String) : List D → Option D
  | [x, .ty T] => (isiT cls T x).map D.bl
  | [x, .gl cl] => (isiC cls cl x).map D.bl
  | _ => none
section
variable {c : Stat}
/-! ### a new list of its own -/
theorem call_list_str' {X : Cx} (hc : X.calm = true) : CallR X (.type "list") (fun xs H Q => ∃ cs : Cs, xs = [.str (toS cs)] ∧ cs.length ≤ sizeLine ∧ ∀ l, H l = none → Q (.ref l) (upd H l (.lst (cs.map fun n => V.str (toS [n]))))) := by
  intro pins s σ H xs us Q I r ⟨cs, ex, hl, q⟩
  subst ex
  obtain ⟨u, rfl, t, rfl⟩ := vals1 r
  refine call_list_str (I.ok.hd hc) (toS cs) t (fun h' tk acc' c' hk hS hi => ?_) (by simpa [toS] using hl)
  have hv : Vals (cs.map fun n => V.str (toS [n])) acc'.toList := by
    have key : ∀ (cs : Cs) (l : List Value), l.length = cs.length → (∀ (j : Nat) v, l[j]? = some v → ∃ n u, cs[j]? = some n ∧ v = .str ⟨#[n]⟩ u) → Vals (cs.map fun n => V.str (toS [n])) l := by
      intro cs
      induction cs with
      | nil => intro l h _; cases l with
        | nil => exact .nil
        | cons _ _ => cases h
      | cons n r ih =>
        intro l h hp
        cases l with
        | nil => cases h
        | cons v l =>
          obtain ⟨m, u, h1, h2⟩ := hp 0 v rfl
          cases h1
          exact .cons ⟨u, h2⟩ (ih l (by simpa using h) fun j w hw => hp (j + 1) w (by simpa using hw))
    refine key cs acc'.toList (by have := hi.1; simpa [toS] using this) fun j v hv => ?_
    obtain ⟨n, u, h1, h2⟩ := hi.2 j v (by simpa using hv)
    exact ⟨n, u, by simpa [toS] using h1, h2⟩
  exact ⟨.ref s.heap.objs.size, _, I.laid (t' := tk) hk (Nat.le_refl _) (show ObjOk X.prog X.w _ h' _ (.lst (cs.map fun n => V.str (toS [n]))) from ⟨by simpa using hl, acc'.toList, c', hv, hS⟩), rfl, q _ (I.hok.fresh (Nat.le_refl _))⟩
theorem ev_list {x : Str} {p pos : Pos} {e : Expr} {f : M D} (hx : x = "list") (hg : Gn c x) (hm : c.mg x = none) (he : ED c e f) (hst : ∀ env, starEach [e] env = [(false, eval e env)] := by intro _; rfl) (hc : c.hot = false := by first | rfl | assumption) : EV c (.Call (.Name x p) [e] [] pos) (owSeq f) := fun G X W z => by
  subst hx
  refine pe_imp (pe_callTy (CallR.or call_list_of (call_list_str' (z.calm hc))) (hg.gl z) (by rw [z.mg]; exact hm) PySem.Pv.boot_list (pa_cons (he G X W z) pa_nil (hst _)) (by decide) (by decide) (hst _) rfl) fun σ H Q ⟨F, ρ, R, q⟩ => ?_
  refine tG_bindV R q fun F1 H1 ρ1 v d s1 R1 rx q1 => ?_
  cases hd : dSeq d with
  | none => simp only [hd] at q1; exact q1.elim
  | some ds =>
    simp only [hd] at q1
    cases rx <;> simp only [dSeq] at hd <;> cases hd
    · rename_i cs h1
      refine .inr ⟨cs, rfl, by rw [sz_eq]; exact h1.1, fun p hp => ?_⟩
      obtain ⟨R2, s2⟩ := fresh_own (d := .lst (cs.map fun n => .str [n])) (o := .lst (cs.map fun n => V.str (toS [n]))) R1 hp ⟨_, upd_same, by
        have := dns_strs (K := c.K) (mg := c.mg) (F := F1) (cs := cs.map fun n => [n]) fun x hx => by
          obtain ⟨n, hn, rfl⟩ := List.mem_map.mp hx
          exact okS_one (h1.2 n hn)
        simpa [List.map_map, Function.comp_def] using this⟩
      exact q1 _ F1 _ (Same.refl _) R2 s2
    · rename_i h1 r1 l1
      refine .inl ⟨_, _, rfl, .inr (by rw [z.K]; exact same_t R1.fh h1), fun p hp => ?_⟩
      obtain ⟨R2, s2⟩ := fresh_own (d := .lst _) (o := .lst _) R1 hp ⟨_, upd_same, r1⟩
      exact q1 _ F1 _ (Same.refl _) R2 s2
    · rename_i h1 r1 l1
      refine .inl ⟨_, _, rfl, .inl (.inl (same_rd R1.fh h1)), fun p hp => ?_⟩
      obtain ⟨R2, s2⟩ := fresh_own (d := .lst _) (o := .lst _) R1 hp ⟨_, upd_same, r1⟩
      exact q1 _ F1 _ (Same.refl _) R2 s2
/-! ### the keys of a dict that stays as it is -/
def dOfK : DK → D
  | .i n => .int n
  | .s cs => .str cs
def dKeys : D → Option (List D)
  | .dct kvs => some (kvs.map fun kv => dOfK kv.1)
  | _ => none
def keysS (a : M D) : M (List D) := bnd a fun x => lift (dKeys x)
theorem dkv_key {K : PySem.W.Frag} {mg : Str → Option Value} {F : Hp} : ∀ {kvs : List (Key × V)} {kds : List (DK × D)} {i : Nat} {k : Key}, Dkv K mg F kvs kds → (kvs[i]?).map (·.1) = some k → ∃ j, (kds.map fun kv => dOfK kv.1)[i]? = some (dOfK j) ∧ Dn K mg F (kV k) (dOfK j)
  | _, _, _, _, .nil, h => by simp at h
  | _, _, 0, _, @Dkv.cons _ _ _ j _ _ _ _ ok _ _, h => by
    simp at h
    subst h
    refine ⟨j, rfl, ?_⟩
    cases j with
    | i n => exact .int n
    | s cs => exact .str cs ok
  | _, _, i + 1, k, .cons _ _ r, h => by
    obtain ⟨j, h1, h2⟩ := dkv_key (i := i) (k := k) r (by simpa using h)
    exact ⟨j, by simpa using h1, h2⟩
theorem walks_keys {F : Hp} {d : Addr} {o : Obj} {kvs : List (Key × V)} {kds : List (DK × D)} (h : F d = some (.frz o (.dK kvs))) (r : Dkv c.K c.mg F kvs kds) (hl : kds.length ≤ sz) : Walks c F (Itk d o kvs) (kds.map fun kv => dOfK kv.1) := by
  have hv := r.length
  refine walks_here (n := kvs.length) (by simp [hv]) (by rw [hv]; exact hl) (fun H1 => H1 d = some (.frz o (.dK kvs))) (fun F1 H1 s1 s2 => s2 _ _ (s1 _ _ h)) (fun i H1 p hi => ?_) (fun i H1 x H2 p hi y => ?_) (fun i H1 p hi => ?_)
  · exact ⟨p, hi⟩
  · obtain ⟨rfl, k, v, h1, rfl⟩ := y
    obtain ⟨j, q1, q2⟩ := dkv_key (k := k) r (by rw [h1]; rfl)
    exact ⟨rfl, _, q1, q2⟩
  · exact ⟨p, hi⟩
theorem ei_keys {tg e : Expr} {f : M D} (he : ED c e f) : EI c tg e (keysS f) := fun G X W z => by
  refine pi_imp (pi_any (he G X W z)) fun σ H R ⟨F, ρ, r, q⟩ => ?_
  refine tG_bind r q fun F1 H1 ρ1 x dx s1 R1 rx q1 => ?_
  obtain ⟨ds, e, k⟩ := q1.liftS R1
  cases rx <;> simp only [dKeys] at e <;> try cases e
  rename_i h1 r1 l1
  exact .inr (.inr (.inr ⟨_, _, _, rfl, R1.fh _ _ h1, k _ (walks_keys h1 r1 l1)⟩))
end
end DL

namespace DL
open PySem L2
/-! ### new instances -/
theorem make_guards {A : Around} {C : Addr} {us : List Value} {kw : List (Str × Value)} (h : A.guards = some []) : (A.under (.builtin "type.__call__" ⟨.ref C :: us, kw⟩)).guards = some [] := by
  unfold Around.under
  dsimp only
  rw [h]
  rfl
def pick {α : Type} (ix : List Nat) (l : List α) : List α := ix.filterMap fun (i : Nat) => l[i]?
/-- how a call with keywords binds -/
def KBx (fd : FuncData) (ps : List Str) (n : Nat) (ks : List Str) (ix : List Nat) : Prop := ∀ us ws : List Value, us.length = n → ws.length = ks.length → bindArgs fd ⟨us, ks.zip ws⟩ = pure (ps.zip (pick ix (us ++ ws))) ∧ (pick ix (us ++ ws)).length = ps.length
theorem vals_pick {vs : List V} {us : List Value} (r : Vals vs us) : ∀ ix : List Nat, Vals (pick ix vs) (pick ix us)
  | [] => .nil
  | i :: ix => by
    unfold pick
    simp only [List.filterMap_cons]
    have ih := vals_pick r ix
    unfold pick at ih
    have key : (∃ v u, vs[i]? = some v ∧ us[i]? = some u ∧ RelV v u) ∨ (vs[i]? = none ∧ us[i]? = none) := by
      clear ih
      induction r generalizing i with
      | nil => exact .inr ⟨rfl, rfl⟩
      | cons h _ ih2 =>
        cases i with
        | zero => exact .inl ⟨_, _, rfl, rfl, h⟩
        | succ i => simpa using ih2 i
    rcases key with ⟨v, u, h1, h2, h3⟩ | ⟨h1, h2⟩
    · rw [h1, h2]; exact .cons h3 ih
    · rw [h1, h2]; exact ih
theorem dns_pick {K : PySem.W.Frag} {mg : Str → Option Value} {F : Hp} {vs : List V} {ds : List D} (r : Dns K mg F vs ds) : ∀ ix : List Nat, Dns K mg F (pick ix vs) (pick ix ds)
  | [] => .nil
  | i :: ix => by
    unfold pick
    simp only [List.filterMap_cons]
    have ih := dns_pick r ix
    unfold pick at ih
    cases h : ds[i]? with
    | some d =>
      obtain ⟨v, h1, h2⟩ := r.get h
      rw [h1]
      exact .cons h2 ih
    | none =>
      have : vs[i]? = none := by
        rw [List.getElem?_eq_none_iff] at h ⊢
        rw [r.length]; exact h
      rw [this]
      exact ih
section
variable {X : Cx} {k : Nat} {C f : Addr} {fd : FuncData} {ps : List Str} {sp : Sp}
/-- C(..), by position and by name -/
theorem run_makeG {E : L2.St → XK} {n : Nat} {ks : List Str} {ix : List Nat} {pins : List (Addr × Obj)} {σ : L2.St} {H : Hp} {s : Shared} {Q : VK} {us ws : List Value} {vs zs : List V} (M : Mk X.K C f) (F : FnG X.prog X.w X.K X.mg X.base k f fd ps sp) (hr : Room (k + 1) X.A) (hg : X.A.guards = some []) (hb : KBx fd ps (n + 1) ks ix)
    (hx : PassesAt (L2.CX X.prog X.w) X σ (E σ)) (I : Inv X pins σ H s) (r : Vals vs us) (rz : Vals zs ws) (l1 : vs.length = n) (l2 : zs.length = ks.length)
    (h : ∀ x dx, H x = none → H dx = none → dx ≠ x → sp (pick ix ((.ref x :: vs) ++ zs)) (upd (upd H dx (.own x)) x (.ins C dx [])) (fun v H2 => v = .non ∧ Q (.ref x) H2) (E σ)) :
    wpAny (model X.prog X.w) X.A (call (.ref C) us (ks.zip ws)) (EP X pins σ Q) X.xe s := by
  have hq := h (s.heap.objs.size + 1) s.heap.objs.size (I.hok.fresh (Nat.le_succ _)) (I.hok.fresh (Nat.le_refl _)) (Nat.ne_of_lt (Nat.lt_succ_self _))
  have I2 := Inv.made (C := C) I
  have r1 : Vals (V.ref (s.heap.objs.size + 1) :: vs) (Value.ref (s.heap.objs.size + 1) :: us) := .cons rfl r
  obtain ⟨b1, b2⟩ := hb (Value.ref (s.heap.objs.size + 1) :: us) ws (by rw [List.length_cons, ← r.length, l1]) (rz.length.symm.trans l2)
  refine wpAny_call (make_map (f := f) I.kIn M.makes M.init (beq_iff_eq.mp M.fn) (codeAny_mono (F.run _ X.stack _ _ ⟨Value.ref (s.heap.objs.size + 1) :: us, ks.zip ws⟩ _ _ _ (E σ) (hr.make C us (ks.zip ws)) (make_guards hg)
    (I2.env0.make C us (ks.zip ws)) (.of_eq b1) (vals_pick (r1.append rz) ix) hq) fun r s' hq' => ?_))
  have q := CR.end_ I2 hx hq'
  cases r with
  | error e => exact q
  | ok fl =>
    cases fl with
    | ret u =>
      obtain ⟨v, H', I3, rv, ev, q3⟩ := q
      subst ev
      exact ⟨rv, ⟨V.ref (s.heap.objs.size + 1), H', I3, rfl, q3⟩⟩
    | next => exact False.elim q
    | brk => exact False.elim q
    | cont => exact False.elim q
def tMakeG (C : Addr) (n m : Nat) (ix : List Nat) (sp : Sp) (E : L2.St → XK) (t tk : TA) : TE := fun σ H Q => t σ H fun vs H1 => tk σ H1 fun zs H2 => vs.length = n ∧ zs.length = m ∧ ∀ x dx, H2 x = none → H2 dx = none → dx ≠ x →
  sp (pick ix ((.ref x :: vs) ++ zs)) (upd (upd H2 dx (.own x)) x (.ins C dx [])) (fun v H3 => v = .non ∧ Q (.ref x) H3) (E σ)
theorem pe_makeG {E : L2.St → XK} {n : Nat} {ks : List Str} {ix : List Nat} {x : Str} {p pos : Pos} {e : Expr} {es : List Expr} {kws : List Keyword} {t tk : TA} (M : Mk X.K C f) (F : FnG X.prog X.w X.K X.mg X.base k f fd ps sp) (hr : Room (k + 1) X.A) (hgd : X.A.guards = some []) (hg : Gl X x) (hm : X.mg x = some (.ref C)) (hb : KBx fd ps (n + 1) ks ix) (hx : ∀ σ, PassesAt (L2.CX X.prog X.w) X σ (E σ)) (ha : PA X (e :: es) t) (hkw : PK X kws tk)
    (hall : (backToKw pos (keywordEach kws X.env)).all (·.1.isSome) = true) (hks : (backToKw pos (keywordEach kws X.env)).filterMap (·.1) = ks) (hdb : (x == ("__debug__" : Str)) = false)
    (he : starEach (e :: es) X.env = (false, eval e X.env) :: starEach es X.env) (hpl : ((backTo pos (starEach (e :: es) X.env)).any (·.1) || (backToKw pos (keywordEach kws X.env)).any (·.1.isNone)) = false) :
    PE X (.Call (.Name x p) (e :: es) kws pos) (tMakeG C n ks.length ix sp E t tk) := by
  refine ⟨fun pins s σ H Q I h => ?_⟩
  refine wpAny_Call_Name_kw (ld_glob I hg hm ?_ hdb)
  refine PySem.W.callWith_KW (h₀ := X.base) I.ok.mod.kin M.kp hall (thn (ha.run pos pins s σ H _ I h) fun us s1 ⟨vs, H1, I1, r, q⟩ => ?_) hpl he
  refine thn (hkw.run pos pins s1 σ H1 _ I1 q) fun ws s2 ⟨zs, H2, I2, rz, l1, l2, q2⟩ => ⟨I2.kIn, ?_⟩
  rw [hks]
  exact run_makeG M F hr hgd hb (hx σ) I2 r rz l1 l2 q2
theorem pe_makeG0 {E : L2.St → XK} {ks : List Str} {ix : List Nat} {x : Str} {p pos : Pos} {kws : List Keyword} {tk : TA} (M : Mk X.K C f) (F : FnG X.prog X.w X.K X.mg X.base k f fd ps sp) (hr : Room (k + 1) X.A) (hgd : X.A.guards = some []) (hg : Gl X x) (hm : X.mg x = some (.ref C)) (hb : KBx fd ps 1 ks ix) (hx : ∀ σ, PassesAt (L2.CX X.prog X.w) X σ (E σ)) (hkw : PK X kws tk)
    (hall : (backToKw pos (keywordEach kws X.env)).all (·.1.isSome) = true) (hks : (backToKw pos (keywordEach kws X.env)).filterMap (·.1) = ks) (hdb : (x == ("__debug__" : Str)) = false)
    (hpl : ((backTo pos (starEach [] X.env)).any (·.1) || (backToKw pos (keywordEach kws X.env)).any (·.1.isNone)) = false) :
    PE X (.Call (.Name x p) [] kws pos) (tMakeG C 0 ks.length ix sp E tNil tk) := by
  refine ⟨fun pins s σ H Q I h => ?_⟩
  refine wpAny_Call_Name_kw (ld_glob I hg hm ?_ hdb)
  refine PySem.W.callWith_KW0 (h₀ := X.base) I.ok.mod.kin M.kp hall ?_ hpl
  refine thn (hkw.run pos pins s σ H _ I h) fun ws s2 ⟨zs, H2, I2, rz, l1, l2, q2⟩ => ⟨I2.kIn, ?_⟩
  rw [hks]
  exact run_makeG (us := []) (vs := []) M F hr hgd hb (hx σ) I2 .nil rz rfl l2 q2
/-- f(..), by position and by name -/
theorem run_fnK {E : L2.St → XK} {n : Nat} {ks : List Str} {ix : List Nat} {pins : List (Addr × Obj)} {σ : L2.St} {H : Hp} {s : Shared} {Q : VK} {us ws : List Value} {vs zs : List V} (F : FnG X.prog X.w X.K X.mg X.base k f fd ps sp) (hr : Room k X.A) (hg : X.A.guards = some []) (hb : KBx fd ps n ks ix)
    (hx : PassesAt (L2.CX X.prog X.w) X σ (E σ)) (I : Inv X pins σ H s) (r : Vals vs us) (rz : Vals zs ws) (l1 : vs.length = n) (l2 : zs.length = ks.length) (h : sp (pick ix (vs ++ zs)) H Q (E σ)) :
    wpAny (model X.prog X.w) X.A (call (.ref f) us (ks.zip ws)) (EP X pins σ Q) X.xe s := by
  obtain ⟨b1, b2⟩ := hb us ws (by rw [← r.length, l1]) (rz.length.symm.trans l2)
  refine wpAny_call (codeAny_mono (F.run X.A X.stack s H ⟨us, ks.zip ws⟩ _ _ Q (E σ) hr hg I.env0 (.of_eq b1) (vals_pick (r.append rz) ix) h) fun r s' hq => ?_)
  have q := CR.end_ I hx hq
  cases r with
  | error e => exact q
  | ok fl => cases fl <;> exact q
def tCallG (n m : Nat) (ix : List Nat) (sp : Sp) (E : L2.St → XK) (t tk : TA) : TE := fun σ H Q => t σ H fun vs H1 => tk σ H1 fun zs H2 => vs.length = n ∧ zs.length = m ∧ sp (pick ix (vs ++ zs)) H2 Q (E σ)
theorem pe_callKG {E : L2.St → XK} {n : Nat} {ks : List Str} {ix : List Nat} {x : Str} {p pos : Pos} {e : Expr} {es : List Expr} {kws : List Keyword} {t tk : TA} (F : FnG X.prog X.w X.K X.mg X.base k f fd ps sp) (hr : Room k X.A) (hgd : X.A.guards = some []) (hg : Gl X x) (hm : X.mg x = some (.ref f)) (hk : PySem.W.keepIn X.K (.ref f) = true) (hb : KBx fd ps n ks ix) (hx : ∀ σ, PassesAt (L2.CX X.prog X.w) X σ (E σ)) (ha : PA X (e :: es) t) (hkw : PK X kws tk)
    (hall : (backToKw pos (keywordEach kws X.env)).all (·.1.isSome) = true) (hks : (backToKw pos (keywordEach kws X.env)).filterMap (·.1) = ks) (hdb : (x == ("__debug__" : Str)) = false)
    (he : starEach (e :: es) X.env = (false, eval e X.env) :: starEach es X.env) (hpl : ((backTo pos (starEach (e :: es) X.env)).any (·.1) || (backToKw pos (keywordEach kws X.env)).any (·.1.isNone)) = false) :
    PE X (.Call (.Name x p) (e :: es) kws pos) (tCallG n ks.length ix sp E t tk) := by
  refine ⟨fun pins s σ H Q I h => ?_⟩
  refine wpAny_Call_Name_kw (ld_glob I hg hm ?_ hdb)
  refine PySem.W.callWith_KW (h₀ := X.base) I.ok.mod.kin hk hall (thn (ha.run pos pins s σ H _ I h) fun us s1 ⟨vs, H1, I1, r, q⟩ => ?_) hpl he
  refine thn (hkw.run pos pins s1 σ H1 _ I1 q) fun ws s2 ⟨zs, H2, I2, rz, l1, l2, q2⟩ => ⟨I2.kIn, ?_⟩
  rw [hks]
  exact run_fnK F hr hgd hb (hx σ) I2 r rz l1 l2 q2
theorem pe_callKG0 {E : L2.St → XK} {ks : List Str} {ix : List Nat} {x : Str} {p pos : Pos} {kws : List Keyword} {tk : TA} (F : FnG X.prog X.w X.K X.mg X.base k f fd ps sp) (hr : Room k X.A) (hgd : X.A.guards = some []) (hg : Gl X x) (hm : X.mg x = some (.ref f)) (hk : PySem.W.keepIn X.K (.ref f) = true) (hb : KBx fd ps 0 ks ix) (hx : ∀ σ, PassesAt (L2.CX X.prog X.w) X σ (E σ)) (hkw : PK X kws tk)
    (hall : (backToKw pos (keywordEach kws X.env)).all (·.1.isSome) = true) (hks : (backToKw pos (keywordEach kws X.env)).filterMap (·.1) = ks) (hdb : (x == ("__debug__" : Str)) = false)
    (hpl : ((backTo pos (starEach [] X.env)).any (·.1) || (backToKw pos (keywordEach kws X.env)).any (·.1.isNone)) = false) :
    PE X (.Call (.Name x p) [] kws pos) (tCallG 0 ks.length ix sp E tNil tk) := by
  refine ⟨fun pins s σ H Q I h => ?_⟩
  refine wpAny_Call_Name_kw (ld_glob I hg hm ?_ hdb)
  refine PySem.W.callWith_KW0 (h₀ := X.base) I.ok.mod.kin hk hall ?_ hpl
  refine thn (hkw.run pos pins s σ H _ I h) fun ws s2 ⟨zs, H2, I2, rz, l1, l2, q2⟩ => ⟨I2.kIn, ?_⟩
  rw [hks]
  exact run_fnK (us := []) (vs := []) F hr hgd hb (hx σ) I2 .nil rz rfl l2 q2
end
section
variable {c : Stat}
/-! ### keywords, by data -/
def EK (c : Stat) (kws : List Keyword) (m : M (List D)) : Prop := ∀ G X W, Cz c X W → PK X kws (tA c G W m)
/-- what is between the keywords of a call and its names -/
def KwOk (kws : List Keyword) (ks : List Str) (pos : Pos) : Prop := ∀ env, (backToKw pos (keywordEach kws env)).all (·.1.isSome) = true ∧ (backToKw pos (keywordEach kws env)).filterMap (·.1) = ks ∧ (backToKw pos (keywordEach kws env)).any (·.1.isNone) = false
def Few (es : List Expr) (pos : Pos) : Prop := ∀ env, (backTo pos (starEach es env)).any (·.1) = false
structure CalK (b : Base) (k : Nat) (x : Str) (n : Nat) (ks : List Str) (ix : List Nat) (g : List D → OutF) : Prop where
  ex : ∃ f fd ps, FnG b.P b.w b.K b.mg b.base k f fd ps (spF b [] g) ∧ b.mg x = some (.ref f) ∧ PySem.W.keepIn b.K (.ref f) = true ∧ KBx fd ps n ks ix
def calK (g : List D → OutF) (n m : Nat) (ix : List Nat) (a kw : M (List D)) : M D := bnd a fun ds => bnd kw fun es ρ => if ds.length = n ∧ es.length = m then (match g (pick ix (ds ++ es)) with
  | .ok d _ => .ok d ρ
  | .err x _ => .err x ρ
  | _ => .bad) else .bad
theorem post_calK {G : Ent} {W : WX} {σ : L2.St} {H F : Hp} {ρ : En} {n m : Nat} {ix : List Nat} {vs zs : List V} {ds es : List D} {g : List D → OutF} {Q : VK} (R : Rel c.K c.mg c.xt G F H σ ρ) (r : Dns c.K c.mg F vs ds) (rz : Dns c.K c.mg F zs es)
    (q : Post (Dn c.K c.mg) c G W F σ (if ds.length = n ∧ es.length = m then (match g (pick ix (ds ++ es)) with
      | .ok d _ => .ok d ρ
      | .err x _ => .err x ρ
      | _ => .bad) else .bad : Out D) Q) : vs.length = n ∧ zs.length = m ∧ spF c.toBase [] g (pick ix (vs ++ zs)) H Q (WE W σ) := by
  split at q
  case isFalse => exact q.elim
  rename_i h
  exact ⟨by rw [r.length]; exact h.1, by rw [rz.length]; exact h.2, post_cal R (dns_pick (r.append rz) ix) q⟩
theorem ed_calK {k n : Nat} {x : Str} {ks : List Str} {ix : List Nat} {g : List D → OutF} {e : Expr} {es : List Expr} {kws : List Keyword} {f fk : M (List D)} {p pos : Pos} (cl : CalK c.toBase k x n ks ix g) (hk : k ≤ c.k) (hg : Gn c x) (ha : EA c (e :: es) f) (hkw : EK c kws fk) (ok : KwOk kws ks pos)
    (hdb : (x == ("__debug__" : Str)) = false := by decide) (he : ∀ env, starEach (e :: es) env = (false, eval e env) :: starEach es env := by intro _; rfl) (hpl : Few (e :: es) pos := by intro _; rfl) (hc : c.hot = false := by first | rfl | assumption) : ED c (.Call (.Name x p) (e :: es) kws pos) (calK g n ks.length ix f fk) := fun G X W z => by
  obtain ⟨fa, fd, ps, F, hm, kp, hb⟩ := cl.ex
  have F' : FnG X.prog X.w X.K X.mg X.base k fa fd ps (spF c.toBase [] g) := by rw [z.P, z.w, z.K, z.mg, z.base]; exact F
  obtain ⟨o1, o2, o3⟩ := ok X.env
  refine pe_imp (pe_callKG F' ((z.cold hc).mono hk) z.gd (hg.gl z) (by rw [z.mg]; exact hm) (by rw [z.K]; exact kp) hb (fun σ => passAt z.tk σ) (ha G X W z) (hkw G X W z) o1 o2 hdb (he _) (by rw [hpl, o3]; rfl)) fun σ H Q ⟨F0, ρ, R, q⟩ => ?_
  refine tG_bind R q fun F1 H1 ρ1 vs ds s1 R1 rx q1 => ?_
  refine tG_bind R1 q1 fun F2 H2 ρ2 zs es s2 R2 rz q2 => ?_
  exact post_calK R2 (rx.mono s2) rz q2
theorem ed_calK0 {k : Nat} {x : Str} {ks : List Str} {ix : List Nat} {g : List D → OutF} {kws : List Keyword} {fk : M (List D)} {p pos : Pos} (cl : CalK c.toBase k x 0 ks ix g) (hk : k ≤ c.k) (hg : Gn c x) (hkw : EK c kws fk) (ok : KwOk kws ks pos)
    (hdb : (x == ("__debug__" : Str)) = false := by decide) (hc : c.hot = false := by first | rfl | assumption) : ED c (.Call (.Name x p) [] kws pos) (calK g 0 ks.length ix args0 fk) := fun G X W z => by
  obtain ⟨fa, fd, ps, F, hm, kp, hb⟩ := cl.ex
  have F' : FnG X.prog X.w X.K X.mg X.base k fa fd ps (spF c.toBase [] g) := by rw [z.P, z.w, z.K, z.mg, z.base]; exact F
  obtain ⟨o1, o2, o3⟩ := ok X.env
  refine pe_imp (pe_callKG0 F' ((z.cold hc).mono hk) z.gd (hg.gl z) (by rw [z.mg]; exact hm) (by rw [z.K]; exact kp) hb (fun σ => passAt z.tk σ) (hkw G X W z) o1 o2 hdb (by rw [o3]; rfl)) fun σ H Q ⟨F0, ρ, R, q⟩ => ?_
  refine tG_bind R (show Post (Dn c.K c.mg) c G W F0 σ (bnd fk _ ρ) Q from q) fun F2 H2 ρ2 zs es s2 R2 rz q2 => ?_
  exact post_calK (vs := []) (ds := []) (n := 0) R2 .nil rz q2
/-! ### new instances, by data -/
structure MakK (b : Base) (k : Nat) (cl : String) (n : Nat) (ks : List Str) (ix : List Nat) (g : List D → OutF) : Prop where
  ex : ∃ C f fd ps, ClD b cl C ∧ Mk b.K C f ∧ FnG b.P b.w b.K b.mg b.base k f fd ps (spF b [0] g) ∧ KBx fd ps (n + 1) ks ix
/-- the new thing first -/
def mkM (cl : String) (g : List D → OutF) (n m : Nat) (ix : List Nat) (a kw : M (List D)) : M D := bnd a fun ds => bnd kw fun es ρ => if ds.length = n ∧ es.length = m ∧ ix.head? = some 0 ∧ ix.tail.contains 0 = false then (match g (pick ix ((.ins cl [] :: ds) ++ es)) with
  | .ok .non [.ins cl' fs] => if cl' = cl then .ok (.ins cl fs) ρ else .bad
  | .err x _ => .err x ρ
  | _ => .bad) else .bad
theorem pick_cons {α : Type} {ix : List Nat} {x : α} {l : List α} (h : ix.head? = some 0) : pick ix (x :: l) = x :: pick ix.tail (x :: l) := by
  cases ix with
  | nil => cases h
  | cons i r => cases h; rfl
theorem pick_tail {α : Type} {ix : List Nat} {x y : α} {l : List α} (h : ix.contains 0 = false) : pick ix (x :: l) = pick ix (y :: l) := by
  induction ix with
  | nil => rfl
  | cons i r ih =>
    cases i with
    | zero => simp at h
    | succ i =>
      have h' : r.contains 0 = false := by simpa using h
      unfold pick at ih ⊢
      simp only [List.filterMap_cons, List.getElem?_cons_succ]
      rw [ih h']
theorem post_mk {G : Ent} {W : WX} {σ : L2.St} {H F : Hp} {ρ : En} {cl : String} {C : Addr} {n m : Nat} {ix : List Nat} {vs zs : List V} {ds es : List D} {g : List D → OutF} {Q : VK} (k : ClD c.toBase cl C) (R : Rel c.K c.mg c.xt G F H σ ρ) (r : Dns c.K c.mg F vs ds) (rz : Dns c.K c.mg F zs es)
    (q : Post (Dn c.K c.mg) c G W F σ (if ds.length = n ∧ es.length = m ∧ ix.head? = some 0 ∧ ix.tail.contains 0 = false then (match g (pick ix ((.ins cl [] :: ds) ++ es)) with
      | .ok .non [.ins cl' fs] => if cl' = cl then .ok (.ins cl fs) ρ else .bad
      | .err x _ => .err x ρ
      | _ => .bad) else .bad : Out D) Q) : vs.length = n ∧ zs.length = m ∧ ∀ x dx, H x = none → H dx = none → dx ≠ x →
      spF c.toBase [0] g (pick ix ((.ref x :: vs) ++ zs)) (upd (upd H dx (.own x)) x (.ins C dx [])) (fun v H3 => v = .non ∧ Q (.ref x) H3) (WE W σ) := by
  split at q
  case isFalse => exact q.elim
  rename_i h
  obtain ⟨h1, h2, h3, h4⟩ := h
  refine ⟨by rw [r.length]; exact h1, by rw [rz.length]; exact h2, fun x dx hx hdx hne => ?_⟩
  have hnew : ∀ b o, H b = some o → b ≠ x ∧ b ≠ dx := fun b o e => ⟨ne_of_none e hx, ne_of_none e hdx⟩
  have hH : Same H (upd (upd H dx (.own x)) x (.ins C dx [])) := fun b o e => by
    obtain ⟨q1, q2⟩ := hnew b o e
    rw [upd_ne q1, upd_ne q2]; exact e
  have sF := R.fh.trans hH
  have fx : F x = none := R.fh.free hx
  rw [List.cons_append, pick_cons h3] at *
  have er : pick ix.tail (V.ref x :: (vs ++ zs)) = pick ix.tail (V.non :: (vs ++ zs)) := pick_tail h4
  have ed : pick ix.tail (D.ins cl [] :: (ds ++ es)) = pick ix.tail (D.non :: (ds ++ es)) := pick_tail h4
  have rr : Dns c.K c.mg F (pick ix.tail (V.ref x :: (vs ++ zs))) (pick ix.tail (D.ins cl [] :: (ds ++ es))) := by
    rw [er, ed]
    exact dns_pick (.cons .non (r.append rz)) _
  generalize pick ix.tail (V.ref x :: (vs ++ zs)) = ws at rr
  generalize pick ix.tail (D.ins cl [] :: (ds ++ es)) = fs0 at rr q
  refine ⟨F, .ins cl [] :: fs0, sF, ⟨by simp [rr.length], fun i v d hi q1 q2 => ?_, fun i d hi q1 => ?_, fun i j y hij hi hj => ?_, ⟨R.tb.t.ext hH, R.tb.n⟩⟩, ?_⟩
  · cases i with
    | zero => exact absurd List.mem_cons_self hi
    | succ i =>
      simp at q1 q2
      obtain ⟨v', p1, p2⟩ := rr.get q2
      rw [q1] at p1; cases p1
      exact p2
  · have hi0 : i = 0 := by simpa using hi
    subst hi0
    simp at q1
    subst q1
    exact ⟨x, rfl, fx, C, dx, [], k.g, upd_same, .nil⟩
  · have hi0 : i = 0 := by simpa using hi
    have hj0 : j = 0 := by simpa using hj
    omega
  have ext : ∀ {es' : List D} {F' H' : Hp}, Fin c.toBase F (upd (upd H dx (.own x)) x (.ins C dx [])) [0] (V.ref x :: ws) es' F' H' → Fin c.toBase F H [] [] [] F' H' := fun {es' F' H'} f =>
    { ff := f.ff, fh := f.fh, tb := f.tb, tbs := fun b ps e => f.tbs b ps (hH b _ e), io := fun k i e q _ => by simp at q
      kept := fun b o e ht _ => by
        refine f.kept b o (hH b o e) ht fun i hi zz => ?_
        have hi0 : i = 0 := by simpa using hi
        subst hi0
        simp at zz
        exact (hnew b o e).1 zz.symm
      nn := fun b hb => f.nn b (by
        cases e : H b with
        | none => exact absurd e hb
        | some o => rw [hH b o e]; exact nofun) }
  cases e : g (.ins cl [] :: fs0) with
  | bad => simp only [e] at q; exact q
  | oko d es' => simp only [e] at q; exact q.elim
  | err y es' =>
    simp only [e] at q
    exact fun cls dd F' H' f xr => q F' H' cls dd f.ff (R.fin (ext f)) xr
  | ok d es' =>
    simp only [e] at q
    intro v F' H' f rv
    split at q
    · rename_i cl' fs' heq
      cases heq
      split at q
      case isFalse => exact q.elim
      rename_i hcl
      subst hcl
      cases rv
      refine ⟨rfl, ?_⟩
      obtain ⟨a, q1, q2, C', dx', vs', g1, q3, q4⟩ := f.io 0 0 _ rfl rfl
      simp at q1
      subst q1
      have := k.same g1
      subst this
      have ex := ext f
      have sF' : Same F' (upd F' x (.ins C' dx' vs')) := fun b o e => by rw [upd_ne (ne_of_none e q2)]; exact e
      have ex2 : Fin c.toBase F H [] [] [] (upd F' x (.ins C' dx' vs')) H' :=
        { ff := ex.ff.trans sF', tb := ex.tb.updF (.ins q3), tbs := ex.tbs, kept := ex.kept, io := fun k i e q _ => by simp at q
          fh := fun b o e => by
            by_cases hb : b = x
            · subst hb; rw [upd_same] at e; cases e; exact q3
            · rw [upd_ne hb] at e; exact ex.fh b o e
          nn := fun b hb => by
            have : b ≠ x := fun z => by subst z; exact hb hx
            rw [upd_ne this]; exact ex.nn b hb }
      exact q (.ref x) _ H' ex2.ff (R.fin ex2) (.ins g1 upd_same (q4.mono sF'))
    · rename_i heq
      cases heq
    · exact q.elim
theorem ed_mk {k n : Nat} {x : String} {ks : List Str} {ix : List Nat} {g : List D → OutF} {e : Expr} {es : List Expr} {kws : List Keyword} {f fk : M (List D)} {p pos : Pos} (cl : MakK c.toBase k x n ks ix g) (hk : k + 1 ≤ c.k) (hg : Gn c (Str.ofString x)) (ha : EA c (e :: es) f) (hkw : EK c kws fk) (ok : KwOk kws ks pos)
    (hdb : (Str.ofString x == ("__debug__" : Str)) = false := by decide) (he : ∀ env, starEach (e :: es) env = (false, eval e env) :: starEach es env := by intro _; rfl) (hpl : Few (e :: es) pos := by intro _; rfl) (hc : c.hot = false := by first | rfl | assumption) : ED c (.Call (.Name (Str.ofString x) p) (e :: es) kws pos) (mkM x g n ks.length ix f fk) := fun G X W z => by
  obtain ⟨C, fa, fd, ps, kc, M, F, hb⟩ := cl.ex
  have F' : FnG X.prog X.w X.K X.mg X.base k fa fd ps (spF c.toBase [0] g) := by rw [z.P, z.w, z.K, z.mg, z.base]; exact F
  obtain ⟨o1, o2, o3⟩ := ok X.env
  refine pe_imp (pe_makeG (by rw [z.K]; exact M) F' ((z.cold hc).mono hk) z.gd (hg.gl z) (by rw [z.mg]; exact kc.g) hb (fun σ => passAt z.tk σ) (ha G X W z) (hkw G X W z) o1 o2 hdb (he _) (by rw [hpl, o3]; rfl)) fun σ H Q ⟨F0, ρ, R, q⟩ => ?_
  refine tG_bind R q fun F1 H1 ρ1 vs ds s1 R1 rx q1 => ?_
  refine tG_bind R1 q1 fun F2 H2 ρ2 zs es s2 R2 rz q2 => ?_
  exact post_mk kc R2 (rx.mono s2) rz q2
theorem ed_mk0 {k : Nat} {x : String} {ks : List Str} {ix : List Nat} {g : List D → OutF} {kws : List Keyword} {fk : M (List D)} {p pos : Pos} (cl : MakK c.toBase k x 0 ks ix g) (hk : k + 1 ≤ c.k) (hg : Gn c (Str.ofString x)) (hkw : EK c kws fk) (ok : KwOk kws ks pos)
    (hdb : (Str.ofString x == ("__debug__" : Str)) = false := by decide) (hc : c.hot = false := by first | rfl | assumption) : ED c (.Call (.Name (Str.ofString x) p) [] kws pos) (mkM x g 0 ks.length ix args0 fk) := fun G X W z => by
  obtain ⟨C, fa, fd, ps, kc, M, F, hb⟩ := cl.ex
  have F' : FnG X.prog X.w X.K X.mg X.base k fa fd ps (spF c.toBase [0] g) := by rw [z.P, z.w, z.K, z.mg, z.base]; exact F
  obtain ⟨o1, o2, o3⟩ := ok X.env
  refine pe_imp (pe_makeG0 (by rw [z.K]; exact M) F' ((z.cold hc).mono hk) z.gd (hg.gl z) (by rw [z.mg]; exact kc.g) hb (fun σ => passAt z.tk σ) (hkw G X W z) o1 o2 hdb (by rw [o3]; rfl)) fun σ H Q ⟨F0, ρ, R, q⟩ => ?_
  refine tG_bind R (show Post (Dn c.K c.mg) c G W F0 σ (bnd fk _ ρ) Q from q) fun F2 H2 ρ2 zs es s2 R2 rz q2 => ?_
  exact post_mk (vs := []) (ds := []) (n := 0) kc R2 .nil rz q2
end
end DL

namespace DL
open PySem L2
section
variable {c : Stat}
/-! ### a call with a new thing of its own -/
def calV (g : List D → OutF) (a : M Sl) : M D := bnd a fun s ρ => match s with
  | .ow j => (match g [j] with
    | .ok d [_] => .ok d ρ
    | .err x [_] => .err x ρ
    | _ => .bad)
  | _ => .bad
theorem tV_bind {α β : Type} {R2 : Hp → β → α → Prop} {G : Ent} {W : WX} {σ : L2.St} {H : Hp} {m : M Sl} {f : Sl → M α} {k : V → Hp → Prop} {Q : β → Hp → Prop} {F : Hp} {ρ : En} (r : Rel c.K c.mg c.xt G F H σ ρ) (h : Post R2 c G W F σ (bnd m f ρ) Q)
    (hk : ∀ F' H1 ρ' v s, Same F F' → Rel c.K c.mg c.xt G F' H1 σ ρ' → SlAt c G F' H1 σ ρ' v s → Post R2 c G W F' σ (f s ρ') Q → k v H1) : tV c G W m σ H k := by
  refine ⟨F, ρ, r, ?_⟩
  unfold bnd at h
  cases e : m ρ with
  | bad => rw [e] at h; exact h
  | err x ρ' => rw [e] at h; exact h
  | ok a ρ' =>
    rw [e] at h
    exact fun b F' H' s r' rb => hk F' H' ρ' b a s r' rb (Post.mono s h)
theorem ed_calV {k : Nat} {x : Str} {g : List D → OutF} {e : Expr} {f : M Sl} {p pos : Pos} (cl : Cal c.toBase k x [0] g) (hk : k ≤ c.k) (hg : Gn c x) (ha : EV c e f) (hdb : (x == ("__debug__" : Str)) = false := by decide)
    (he : ∀ env, starEach [e] env = [(false, eval e env)] := by intro _; rfl) (hc : c.hot = false := by first | rfl | assumption) : ED c (.Call (.Name x p) [e] [] pos) (calV g f) := fun G X W z => by
  obtain ⟨fa, fd, ps, F, hm, kp, hb⟩ := cl.ex
  have F' : FnG X.prog X.w X.K X.mg X.base k fa fd ps (spF c.toBase [0] g) := by rw [z.P, z.w, z.K, z.mg, z.base]; exact F
  refine pe_imp (pe_callG F' ((z.cold hc).mono hk) z.gd (hg.gl z) (by rw [z.mg]; exact hm) (by rw [z.K]; exact kp) (by rw [z.K]; exact hb) (fun σ => passAt z.tk σ) (pa_cons (ha G X W z) pa_nil (he _)) hdb (he _) rfl) fun σ H Q ⟨F0, ρ, R, q⟩ => ?_
  refine tV_bind R q fun F1 H1 ρ1 v s s1 R1 rv q1 => ?_
  cases s with
  | un => exact q1.elim
  | xc _ => exact q1.elim
  | fz d => exact q1.elim
  | ow j =>
  obtain ⟨a, rfl, ow, no⟩ := rv
  have h0 : G.H0 a = none := by
    rcases ow.nh with zz | ⟨p, pm, zz⟩
    · exact zz
    · exfalso
      obtain ⟨d, hd⟩ := R1.pw p pm
      refine no p.1 d hd ?_
      rw [R1.par p pm, zz]
  have keep : ∀ {es : List D} {F' H' : Hp}, Fin c.toBase F1 H1 [0] [V.ref a] es F' H' → Rel c.K c.mg c.xt G F' H' σ ρ1 := fun {es F' H'} f => by
    have kp : ∀ x o, x ≠ a → (∀ ps, o ≠ .tbl ps) → H1 x = some o → H' x = some o := fun x o hx ht hh => f.kept x o hh ht fun i hi zz => by
      have hi0 : i = 0 := by simpa using hi
      subst hi0
      simp at zz
      exact hx zz.symm
    refine ⟨R1.f0.trans f.ff, f.fh, fun b o hb ht hp => kp b o (fun zz => by subst zz; rw [h0] at hb; cases hb) ht (R1.kept b o hb ht hp), R1.par, fun i d hi => ?_, fun i d hi => ?_, R1.ne, R1.len, R1.pw, fun b hb => ?_, (fun b ps h => let ⟨qs, q⟩ := R1.tbs b ps h; f.tbs b qs q), f.tb, xcMono' f.ff R1.xc⟩
    · obtain ⟨w, h1, h2⟩ := R1.fz i d hi
      exact ⟨w, h1, h2.mono f.ff⟩
    · obtain ⟨w, h1, h2⟩ := R1.ow i d hi
      have hx : w ≠ a := fun zz => no i d hi (by rw [← zz]; exact h1)
      exact ⟨w, h1, ⟨by rw [f.nn w h2.at_.some]; exact h2.nf, h2.nh, h2.at_.mono' f.ff fun o ht zz => kp w o hx ht zz⟩⟩
    · rw [f.nn b (R1.h_some hb)]; exact R1.fn b hb
  refine ⟨F1, [j], R1.fh, ⟨rfl, fun i v d hi q1 q2 => ?_, fun i d hi q1 => ?_, fun i l y hil hi hl => ?_, R1.tb⟩, ?_⟩
  · cases i with
    | zero => exact absurd List.mem_cons_self hi
    | succ i => simp at q1
  · have hi0 : i = 0 := by simpa using hi
    subst hi0
    simp at q1
    subst q1
    exact ⟨a, rfl, ow.nf, ow.at_⟩
  · have hi0 : i = 0 := by simpa using hi
    have hl0 : l = 0 := by simpa using hl
    omega
  cases e : g [j] with
  | bad => simp only [e] at q1; exact q1
  | oko d es => simp only [e] at q1; exact q1.elim
  | ok d es =>
    simp only [e] at q1
    intro v F' H' f rv
    match es, q1 with
    | [_], q1 => exact q1 v F' H' f.ff (keep f) rv
  | err y es =>
    simp only [e] at q1
    intro cls dd F' H' f xr
    match es, q1 with
    | [_], q1 => exact q1 F' H' cls dd f.ff (keep f) xr
/-! ### a def that gives a new thing of its own -/
def calO (g : List D → OutF) (a : M (List D)) : M Sl := bnd a fun ds ρ => match g ds with
  | .ok d _ => .ok (.fz d) ρ
  | .oko d _ => .ok (.ow d) ρ
  | .err x _ => .err x ρ
  | .bad => .bad
theorem ev_calO {k : Nat} {x : Str} {g : List D → OutF} {e : Expr} {es : List Expr} {f : M (List D)} {p pos : Pos} (cl : Cal c.toBase k x [] g) (hk : k ≤ c.k) (hg : Gn c x) (ha : EA c (e :: es) f) (hdb : (x == ("__debug__" : Str)) = false := by decide)
    (he : ∀ env, starEach (e :: es) env = (false, eval e env) :: starEach es env := by intro _; rfl) (hpl : ∀ env, (backTo pos (starEach es env)).any (·.1) = false := by intro _; rfl) (hc : c.hot = false := by first | rfl | assumption) : EV c (.Call (.Name x p) (e :: es) [] pos) (calO g f) := fun G X W z => by
  obtain ⟨fa, fd, ps, F, hm, kp, hb⟩ := cl.ex
  have F' : FnG X.prog X.w X.K X.mg X.base k fa fd ps (spF c.toBase [] g) := by rw [z.P, z.w, z.K, z.mg, z.base]; exact F
  refine pe_imp (pe_callG F' ((z.cold hc).mono hk) z.gd (hg.gl z) (by rw [z.mg]; exact hm) (by rw [z.K]; exact kp) (by rw [z.K]; exact hb) (fun σ => passAt z.tk σ) (ha G X W z) hdb (he _) (hpl _)) fun σ H Q ⟨F0, ρ, R, q⟩ => ?_
  refine tG_bindV R q fun F1 H1 ρ1 vs ds s1 R1 rx q1 => ?_
  refine ⟨F1, ds, R1.fh, args_pure rx R1.tb, ?_⟩
  cases e : g ds with
  | bad => simp only [e] at q1; exact q1
  | ok d es => simp only [e] at q1; exact fun v F' H' f rv => q1 v F' H' f.ff (R1.fin f) rv
  | err x es => simp only [e] at q1; exact fun cls dd F' H' f xr => q1 F' H' cls dd f.ff (R1.fin f) xr
  | oko d es =>
    simp only [e] at q1
    intro a F' H' f nf hn at_
    have R2 := R1.fin f
    exact q1 (.ref a) F' H' f.ff R2 ⟨a, rfl, ⟨nf, .inl (R1.h0_none hn), at_⟩, fun i e' hi zz => by
      obtain ⟨b, h1, h2⟩ := R1.ow i e' hi
      rw [zz] at h1
      cases h1
      exact h2.at_.some hn⟩
end
/-! ### the end -/
def NoList (K : PySem.W.Frag) : Prop := ∀ a o, K.lookup a = some o → o.cls ≠ .type "list"
open PySem.Spec PyProof.Rows in
theorem law_callG {P : Program} {w : World} {K : PySem.W.Frag} {mg mb : Str → Option Value} {k : Nat} {fa a : Addr} {fd : FuncData} {x : Str} {s₁ : Shared} {vs : List Value} {ns : List Int}
    (KX : K.In s₁.heap) (nl : NoList K) (hns : s₁.heap.Ns mainGlobals mg) (hb : s₁.heap.Ns builtinsNs mb) (hbb : ∀ x : Str, x ≠ "__name__" → mb x = bootBuiltins x) (hlim : s₁.heap.NoLimit) (hg : s₁.gens = #[])
    (ha : s₁.heap.get? a = some { cls := .type "list", data := .seq vs.toArray }) (hi : IntsAre vs ns) (hl : ns.length ≤ sz) (hr : Room k callerA)
    (F : ∀ base : Heap, K.In base → base.Ns mainGlobals mg → ∃ g es, FnG P w K mg base k fa fd [x] (spF ⟨P, w, K, mg, base, []⟩ [] g) ∧ g [.lst (ns.map .int)] = .ok (.bl true) es) (hbind : ∀ (s : Shared) (u : Value), BindsTo s fd ⟨[u], []⟩ [(x, u)]) :
    codeAny (model P w) callerA (.call (.ref fa) ⟨[.ref a], []⟩) (fun r s' => r = .ok (.ret (.bool true)) ∧ OldK s₁.heap s'.heap ∧ s'.os = s₁.os ∧ AllBare s'.gens) s₁ := by
  have rv := vals_ints hi
  have hK : K.lookup a = none := by
    cases e : K.lookup a with
    | none => rfl
    | some o =>
      have q := KX a o e
      rw [ha] at q
      cases q
      exact absurd rfl (nl a _ e)
  -- nothing is tracked but the script
  let ob : Obj := { cls := .type "list", data := .seq vs.toArray }
  let H : Hp := fun b => if b = a then some (.frz ob (.lst (ns.map V.int))) else none
  have Ha : H a = some (.frz ob (.lst (ns.map V.int))) := if_pos rfl
  have Hn : ∀ b, b ≠ a → H b = none := fun b h => if_neg h
  have Hs : ∀ b u, H b = some u → b = a ∧ u = .frz ob (.lst (ns.map V.int)) := fun b u e => by
    by_cases h : b = a
    · subst h; rw [Ha] at e; cases e; exact ⟨rfl, rfl⟩
    · rw [Hn b h] at e; cases e
  have hok : HOk P w H s₁.heap := fun b u e => by
    obtain ⟨rfl, rfl⟩ := Hs b u e
    exact ⟨ha, by rw [List.length_map, sz_eq]; exact hl, vs, _, rv, ha⟩
  have base_of : ∀ {b : Addr} {o : Obj}, s₁.heap.get? b = some o → b ≠ a → (hidT s₁.heap H).get? b = some o := fun e n => hidT_get e (Hn _ n)
  have nsK : ∀ {b : Addr} {m : Str → Option Value}, s₁.heap.Ns b m → (hidT s₁.heap H).Ns b m := fun {b m} ⟨o, es, ep, e, d, r⟩ => ⟨o, es, ep, base_of e (fun z => by
    subst z
    rw [ha] at e
    cases e
    have d' : Data.seq vs.toArray _ = Data.dict es ep := d
    cases d'), d, r⟩
  have hKb : K.In (hidT s₁.heap H) := fun b o e => base_of (KX b o e) fun z => by subst z; rw [hK] at e; cases e
  have hM : Mod K mg (hidT s₁.heap H) := ⟨hKb, nsK hns, ⟨mb, nsK hb, hbb⟩, let ⟨mc, h1, h2⟩ := hlim; ⟨mc, nsK h1, h2⟩⟩
  have e0 : Env0 P w K mg (hidT s₁.heap H) callerA [] s₁ H := ⟨rfl, hM, fun b o e => of_hidT e, Nat.le_of_eq (hidT_size _ _), trivial, fun b hb => absurd (show b ∈ ([] : List Addr) from hb) (by simp), hok, .of_eq hg⟩
  obtain ⟨g, es, hF, hge⟩ := F _ hKb (nsK hns)
  refine codeAny_mono (hF.run callerA [] s₁ H ⟨[.ref a], []⟩ [.ref a] [.ref a] (fun v _ => v = .bl true) (fun _ _ _ => False) hr rfl e0 (hbind s₁ (.ref a)) (.cons rfl .nil) ?_) fun r s' h => ?_
  · refine ⟨H, [.lst (ns.map .int)], Same.refl _, args_pure (.cons (.lst (.inr ⟨ob, Ha⟩) (dns_ints ns) (by rw [List.length_map]; exact hl)) .nil) ⟨(fun _ q => nomatch q), (fun _ q => nomatch q)⟩, ?_⟩
    rw [hge]
    intro v F' H' f rv
    cases rv
    rfl
  cases r with
  | error e =>
    obtain ⟨_, _, _, _, _, _, _, _, _, _, _, _, z⟩ := h
    exact z.elim
  | ok fl =>
    cases fl with
    | next => exact h.elim
    | brk => exact h.elim
    | cont => exact h.elim
    | ret u =>
      obtain ⟨v, H', os, bare, un, hok', r', q⟩ := h
      have q' : v = .bl true := q
      subst q'
      obtain rfl : u = Value.bool true := r'
      refine ⟨rfl, OldK.of_keep fun b o e => ?_, os, bare⟩
      by_cases hba : b = a
      · subst hba
        have z2 := un.frzs b ob _ Ha
        obtain ⟨e2, _⟩ := hok' b _ z2
        rw [ha] at e
        cases e
        exact e2
      · exact un.keep b o e (Hn b hba) (by intro z; exact absurd (show b ∈ ([] : List Addr) from z) (by simp)) (by simp)
open PySem.Spec PyProof.Rows in
/-- the goal that the head leaves -/
theorem walk_ofG {l : PySem.W.OpenLaw} {n k : Nat} {q : Program} {loose : List Str} {XP : (Str → Option Value) → Heap → Prop} {YP : World → Heap → Prop} {d : DefRec} {K : Params → PySem.W.Frag} {x : Str}
    (hn : l.most = some n) (hn2 : n ≤ sz) (hdf : d.params.defaults = []) (hr : Room k callerA) (hY : ∀ (w : World) (h : Heap), YP w h → (K w.params).In h) (nl : ∀ w : World, NoList (K w.params))
    (F : ∀ (w : World) (mg : Str → Option Value) (fa : Addr) (h : Heap), (K w.params).In h → h.Ns mainGlobals mg → mg d.name = some (.ref fa) →
      ∃ fd : FuncData, (∀ (s : Shared) (u : Value), BindsTo s fd ⟨[u], []⟩ [(x, u)]) ∧
        ∀ base : Heap, (K w.params).In base → base.Ns mainGlobals mg → ∃ g, FnG l.prog w (K w.params) mg base k fa fd [x] (spF ⟨l.prog, w, K w.params, mg, base, []⟩ [] g) ∧ ∀ ns : List Int, ns.length ≤ n → ∃ es, g [.lst (ns.map .int)] = .ok (.bl true) es) :
    PySem.W.WalkO q loose XP YP l.row.toRowW d [] (fun f vs => PySem.call f vs) := by
  refine Att.attach_call hn hdf fun w s₀ s₁ mg mb fa o pm cd doc a vs ns G Y ho hd hcd hmg hobj hints hlen hg => ?_
  have KX := hY w _ Y
  obtain ⟨fd, hb, hF⟩ := F w mg fa _ KX G.T.g hmg
  refine law_callG KX (nl w) G.T.g G.T.b G.T.builtins G.T.nolimit hg hobj hints (Nat.le_trans hlen hn2) hr (fun base h1 h2 => ?_) hb
  obtain ⟨g, h3, h4⟩ := hF base h1 h2
  obtain ⟨es, h5⟩ := h4 ns hlen
  exact ⟨g, es, h3, h5⟩
end DL

namespace DL
open PySem L2
/-! ### the rules as the printer writes them -/
theorem bt_len : bootBuiltins "len" = some (.builtin "len") := by decide +kernel
theorem bt_abs : bootBuiltins "abs" = some (.builtin "abs") := by decide +kernel
theorem bt_max : bootBuiltins "max" = some (.builtin "max") := by decide +kernel
theorem bt_min : bootBuiltins "min" = some (.builtin "min") := by decide +kernel
theorem bt_all : bootBuiltins "all" = some (.builtin "all") := by decide +kernel
theorem bt_sorted : bootBuiltins "sorted" = some (.builtin "sorted") := by decide +kernel
theorem bt_repr : bootBuiltins "repr" = some (.builtin "repr") := by decide +kernel
theorem bt_isinstance : bootBuiltins "isinstance" = some (.builtin "isinstance") := by decide +kernel
theorem bt_int : bootBuiltins "int" = some (.type "int") := by decide +kernel
theorem bt_dict : bootBuiltins "dict" = some (.type "dict") := by decide +kernel
theorem bt_set : bootBuiltins "set" = some (.type "set") := by decide +kernel
def visB (sc : Scope) (x : Str) : Bool := match sc.names.lookup x with
  | some .local => true
  | some .cell => true
  | some .free => true
  | _ => false
theorem vis_of {sc : Scope} {x : Str} (h : visB sc x = true) : Vis sc x := by
  unfold visB at h
  split at h
  · exact .inl (by assumption)
  · exact .inr (.inl (by assumption))
  · exact .inr (.inr (by assumption))
  · cases h
def lcB (sc raw : Scope) (x : Str) : Bool := match sc.names.lookup x with
  | some .local => true
  | some .cell => (match raw.names.lookup x with
    | some .cell => true
    | _ => false)
  | _ => false
theorem lc_of {c : Stat} {i : Nat} {x : Str} (hN : c.N[i]? = some x) (h : lcB c.sc c.raw x = true) : Lc c i x := by
  refine ⟨hN, ?_⟩
  unfold lcB at h
  split at h
  · exact .inl (by assumption)
  · split at h
    · exact .inr ⟨by assumption, by assumption⟩
    · cases h
  · cases h
theorem ne_of_beq {x y : Str} (h : (x == y) = false) : x ≠ y := fun e => by subst e; simp at h
section
variable {c : Stat}
theorem xv (i : Nat) {x : Str} {pos : Pos} (hN : c.N[i]? = some x := by kernel_rfl) (hv : visB c.sc x = true := by kernel_rfl) (hd : (x == ("__debug__" : Str)) = false := by kernel_rfl) (hcd : (x == ("__classdict__" : Str)) = false := by kernel_rfl) : ED c (.Name x pos) (v i) := ed_var hN (vis_of hv) hd hcd
theorem xstr {x : Str} {cs : Cs} {j pos} (e : x = toS cs := by kernel_rfl) (h : decide (okS cs) = true := by kernel_rfl) : ED c (.Constant (.str x) j pos) (cn (.str cs)) := ed_str e (of_decide_eq_true h)
theorem xB {id : String} {x : Str} {p pos : Pos} {e : Expr} {es : List Expr} {f : M (List D)} {r : List D → Option D} (h : BCl c (.builtin id) r) (hm : c.mg x = none) (hv : bootBuiltins x = some (.builtin id)) (ha : EA c (e :: es) f)
    (hg : c.sc.names.lookup x = some .globalImplicit := by kernel_rfl) (hn : (x == ("__name__" : Str)) = false := by kernel_rfl) (hdb : (x == ("__debug__" : Str)) = false := by kernel_rfl) (he : ∀ env, starEach (e :: es) env = (false, eval e env) :: starEach es env := by intro _; rfl) (hpl : ∀ env, (backTo pos (starEach es env)).any (·.1) = false := by intro _; rfl) :
    ED c (.Call (.Name x p) (e :: es) [] pos) (opL r f) := ed_callB h hg hm hv ha (ne_of_beq hn) hdb he hpl
theorem xT {T : String} {x : Str} {p pos : Pos} {e : Expr} {es : List Expr} {f : M (List D)} {r : List D → Option D} (h : BCl c (.type T) r) (hm : c.mg x = none) (hv : bootBuiltins x = some (.type T)) (ha : EA c (e :: es) f)
    (hg : c.sc.names.lookup x = some .globalImplicit := by kernel_rfl) (hn : (x == ("__name__" : Str)) = false := by kernel_rfl) (hdb : (x == ("__debug__" : Str)) = false := by kernel_rfl) (he : ∀ env, starEach (e :: es) env = (false, eval e env) :: starEach es env := by intro _; rfl) (hpl : ∀ env, (backTo pos (starEach es env)).any (·.1) = false := by intro _; rfl) :
    ED c (.Call (.Name x p) (e :: es) [] pos) (opL r f) := ed_callTy h hg hm hv ha (ne_of_beq hn) hdb he hpl
theorem xty {x : Str} {T : String} {pos : Pos} (hm : c.mg x = none) (hv : bootBuiltins x = some (.type T)) (hg : c.sc.names.lookup x = some .globalImplicit := by kernel_rfl) (hn : (x == ("__name__" : Str)) = false := by kernel_rfl) (hd : (x == ("__debug__" : Str)) = false := by kernel_rfl) : ED c (.Name x pos) (cn (.ty T)) := ed_ty hg hm hv (ne_of_beq hn) hd
theorem xgi {x : Str} {i : Int} {pos : Pos} (hm : ∃ t, c.mg x = some (.int i t)) (hg : c.sc.names.lookup x = some .globalImplicit := by kernel_rfl) (hd : (x == ("__debug__" : Str)) = false := by kernel_rfl) : ED c (.Name x pos) (cn (.int i)) := let ⟨_, h⟩ := hm; ed_gint hg h hd
theorem xgs {x : Str} {cs : Cs} {pos : Pos} (hm : ∃ t, c.mg x = some (.str (toS cs) t)) (hg : c.sc.names.lookup x = some .globalImplicit := by kernel_rfl) (hk : decide (okS cs) = true := by kernel_rfl) (hd : (x == ("__debug__" : Str)) = false := by kernel_rfl) : ED c (.Name x pos) (cn (.str cs)) := let ⟨_, h⟩ := hm; ed_gstr hg h (of_decide_eq_true hk) hd
theorem xgc {x : String} {pos : Pos} (hm : ∃ C, c.mg (Str.ofString x) = some (.ref C)) (hg : c.sc.names.lookup (Str.ofString x) = some .globalImplicit := by kernel_rfl) (hd : (Str.ofString x == ("__debug__" : Str)) = false := by kernel_rfl) : ED c (.Name (Str.ofString x) pos) (cn (.gl x)) := let ⟨_, h⟩ := hm; ed_gcls hg h hd
theorem xcal {k : Nat} {x : Str} {g : List D → OutF} {e : Expr} {es : List Expr} {f : M (List D)} {p pos : Pos} (cl : Cal c.toBase k x [] g) (ha : EA c (e :: es) f) (hk : Nat.ble k c.k = true := by kernel_rfl) (hg : c.sc.names.lookup x = some .globalImplicit := by kernel_rfl) (hdb : (x == ("__debug__" : Str)) = false := by kernel_rfl)
    (he : ∀ env, starEach (e :: es) env = (false, eval e env) :: starEach es env := by intro _; rfl) (hpl : ∀ env, (backTo pos (starEach es env)).any (·.1) = false := by intro _; rfl) (hc : c.hot = false := by first | rfl | assumption) : ED c (.Call (.Name x p) (e :: es) [] pos) (cal g f) := ed_cal cl (Nat.le_of_ble_eq_true hk) hg ha hdb he hpl
theorem xcalR {k : Nat} {x y : Str} {g : List D → OutF} (i : Nat) {es : List Expr} {f : M (List D)} {p p2 pos : Pos} (cl : Cal c.toBase k x [0] g) (ha : EA c es f) (hk : Nat.ble k c.k = true := by kernel_rfl) (hg : c.sc.names.lookup x = some .globalImplicit := by kernel_rfl) (hN : c.N[i]? = some y := by kernel_rfl) (hv : visB c.sc y = true := by kernel_rfl) (hdb : (x == ("__debug__" : Str)) = false := by kernel_rfl)
    (hd : (y == ("__debug__" : Str)) = false := by kernel_rfl) (hcd : (y == ("__classdict__" : Str)) = false := by kernel_rfl) (hpl : ∀ env, (backTo pos (starEach es env)).any (·.1) = false := by intro _; rfl) (hc : c.hot = false := by first | rfl | assumption) : ED c (.Call (.Name x p) (.Name y p2 :: es) [] pos) (calR g i f) := ed_calR cl (Nat.le_of_ble_eq_true hk) hg hN (vis_of hv) ha hdb hd hcd hpl
theorem xcalV {k : Nat} {x : Str} {g : List D → OutF} {e : Expr} {f : M Sl} {p pos : Pos} (cl : Cal c.toBase k x [0] g) (ha : EV c e f) (hk : Nat.ble k c.k = true := by kernel_rfl) (hg : c.sc.names.lookup x = some .globalImplicit := by kernel_rfl) (hdb : (x == ("__debug__" : Str)) = false := by kernel_rfl) (he : ∀ env, starEach [e] env = [(false, eval e env)] := by intro _; rfl) (hc : c.hot = false := by first | rfl | assumption) : ED c (.Call (.Name x p) [e] [] pos) (calV g f) :=
  ed_calV cl (Nat.le_of_ble_eq_true hk) hg ha hdb he
theorem xcalO {k : Nat} {x : Str} {g : List D → OutF} {e : Expr} {es : List Expr} {f : M (List D)} {p pos : Pos} (cl : Cal c.toBase k x [] g) (ha : EA c (e :: es) f) (hk : Nat.ble k c.k = true := by kernel_rfl) (hg : c.sc.names.lookup x = some .globalImplicit := by kernel_rfl) (hdb : (x == ("__debug__" : Str)) = false := by kernel_rfl)
    (he : ∀ env, starEach (e :: es) env = (false, eval e env) :: starEach es env := by intro _; rfl) (hpl : ∀ env, (backTo pos (starEach es env)).any (·.1) = false := by intro _; rfl) (hc : c.hot = false := by first | rfl | assumption) : EV c (.Call (.Name x p) (e :: es) [] pos) (calO g f) := ev_calO cl (Nat.le_of_ble_eq_true hk) hg ha hdb he hpl
theorem xcalK {k n : Nat} {x : Str} {ks : List Str} {ix : List Nat} {g : List D → OutF} {e : Expr} {es : List Expr} {kws : List Keyword} {f fk : M (List D)} {p pos : Pos} (cl : CalK c.toBase k x n ks ix g) (ha : EA c (e :: es) f) (hkw : EK c kws fk) (ok : KwOk kws ks pos := by intro _; exact ⟨rfl, rfl, rfl⟩) (hk : Nat.ble k c.k = true := by kernel_rfl) (hg : c.sc.names.lookup x = some .globalImplicit := by kernel_rfl)
    (hdb : (x == ("__debug__" : Str)) = false := by kernel_rfl) (he : ∀ env, starEach (e :: es) env = (false, eval e env) :: starEach es env := by intro _; rfl) (hpl : Few (e :: es) pos := by intro _; rfl) (hc : c.hot = false := by first | rfl | assumption) : ED c (.Call (.Name x p) (e :: es) kws pos) (calK g n ks.length ix f fk) := ed_calK cl (Nat.le_of_ble_eq_true hk) hg ha hkw ok hdb he hpl
theorem xcalK0 {k : Nat} {x : Str} {ks : List Str} {ix : List Nat} {g : List D → OutF} {kws : List Keyword} {fk : M (List D)} {p pos : Pos} (cl : CalK c.toBase k x 0 ks ix g) (hkw : EK c kws fk) (ok : KwOk kws ks pos := by intro _; exact ⟨rfl, rfl, rfl⟩) (hk : Nat.ble k c.k = true := by kernel_rfl) (hg : c.sc.names.lookup x = some .globalImplicit := by kernel_rfl)
    (hdb : (x == ("__debug__" : Str)) = false := by kernel_rfl) (hc : c.hot = false := by first | rfl | assumption) : ED c (.Call (.Name x p) [] kws pos) (calK g 0 ks.length ix args0 fk) := ed_calK0 cl (Nat.le_of_ble_eq_true hk) hg hkw ok hdb
theorem xmk {k n : Nat} {x : String} {ks : List Str} {ix : List Nat} {g : List D → OutF} {e : Expr} {es : List Expr} {kws : List Keyword} {f fk : M (List D)} {p pos : Pos} (cl : MakK c.toBase k x n ks ix g) (ha : EA c (e :: es) f) (hkw : EK c kws fk) (ok : KwOk kws ks pos := by intro _; exact ⟨rfl, rfl, rfl⟩) (hk : Nat.ble (k + 1) c.k = true := by kernel_rfl) (hg : c.sc.names.lookup (Str.ofString x) = some .globalImplicit := by kernel_rfl)
    (hdb : (Str.ofString x == ("__debug__" : Str)) = false := by kernel_rfl) (he : ∀ env, starEach (e :: es) env = (false, eval e env) :: starEach es env := by intro _; rfl) (hpl : Few (e :: es) pos := by intro _; rfl) (hc : c.hot = false := by first | rfl | assumption) : ED c (.Call (.Name (Str.ofString x) p) (e :: es) kws pos) (mkM x g n ks.length ix f fk) := ed_mk cl (Nat.le_of_ble_eq_true hk) hg ha hkw ok hdb he hpl
theorem xmk0 {k : Nat} {x : String} {ks : List Str} {ix : List Nat} {g : List D → OutF} {kws : List Keyword} {fk : M (List D)} {p pos : Pos} (cl : MakK c.toBase k x 0 ks ix g) (hkw : EK c kws fk) (ok : KwOk kws ks pos := by intro _; exact ⟨rfl, rfl, rfl⟩) (hk : Nat.ble (k + 1) c.k = true := by kernel_rfl) (hg : c.sc.names.lookup (Str.ofString x) = some .globalImplicit := by kernel_rfl)
    (hdb : (Str.ofString x == ("__debug__" : Str)) = false := by kernel_rfl) (hc : c.hot = false := by first | rfl | assumption) : ED c (.Call (.Name (Str.ofString x) p) [] kws pos) (mkM x g 0 ks.length ix args0 fk) := ed_mk0 cl (Nat.le_of_ble_eq_true hk) hg hkw ok hdb
theorem xlenO (i : Nat) {y : Str} {p p2 pos : Pos} (hm : c.mg "len" = none) (hg : c.sc.names.lookup ("len" : Str) = some .globalImplicit := by kernel_rfl) (hN : c.N[i]? = some y := by kernel_rfl) (hv : visB c.sc y = true := by kernel_rfl) (hd : (y == ("__debug__" : Str)) = false := by kernel_rfl) (hcd : (y == ("__classdict__" : Str)) = false := by kernel_rfl) :
    ED c (.Call (.Name "len" p) [.Name y p2] [] pos) (lenO i) := ed_lenO rfl hg hm hN (vis_of hv) hd hcd
theorem xixO (i : Nat) {y : Str} {b : Expr} {f : M D} {p2 pos : Pos} (hb : ED c b f) (hN : c.N[i]? = some y := by kernel_rfl) (hv : visB c.sc y = true := by kernel_rfl) (hd : (y == ("__debug__" : Str)) = false := by kernel_rfl) (hcd : (y == ("__classdict__" : Str)) = false := by kernel_rfl) (hs : PlainIx b := by intro _ _; rfl) :
    ED c (.Subscript (.Name y p2) b pos) (ixO i f) := ed_ixO hN (vis_of hv) hb hs hd hcd
theorem xappO (i : Nat) {y : Str} {b : Expr} {f : M D} {apos cpos p2 : Pos} (hb : ED c b f) (hN : c.N[i]? = some y := by kernel_rfl) (hv : visB c.sc y = true := by kernel_rfl) (hd : (y == ("__debug__" : Str)) = false := by kernel_rfl) (hcd : (y == ("__classdict__" : Str)) = false := by kernel_rfl)
    (hst : ∀ env, starEach [b] env = [(false, eval b env)] := by intro _; rfl) (hl : (apos.endLine == cpos.line) = true := by rfl) : ED c (.Call (.Attribute (.Name y p2) "append" apos) [b] [] cpos) (appO i f) := ed_appO hN (vis_of hv) hb hd hcd hst hl
theorem xpopO (i : Nat) {y : Str} {b : Expr} {f : M D} {apos cpos p2 : Pos} (hb : ED c b f) (hN : c.N[i]? = some y := by kernel_rfl) (hv : visB c.sc y = true := by kernel_rfl) (hd : (y == ("__debug__" : Str)) = false := by kernel_rfl) (hcd : (y == ("__classdict__" : Str)) = false := by kernel_rfl)
    (hst : ∀ env, starEach [b] env = [(false, eval b env)] := by intro _; rfl) (hl : (apos.endLine == cpos.line) = true := by rfl) : ED c (.Call (.Attribute (.Name y p2) "pop" apos) [b] [] cpos) (popO i f) := ed_popO hN (vis_of hv) hb hd hcd hst hl
theorem xstO (i : Nat) {y : Str} {b e : Expr} {f g : M D} {p2 pos' pos : Pos} (he : ED c e f) (hb : ED c b g) (hN : c.N[i]? = some y := by kernel_rfl) (hv : visB c.sc y = true := by kernel_rfl) (hd : (y == ("__debug__" : Str)) = false := by kernel_rfl) (hcd : (y == ("__classdict__" : Str)) = false := by kernel_rfl)
    (h1 : ∀ env, swapsWithSole [.Subscript (.Name y p2) b pos'] e pos.line env = pure false := by intro _; rfl) (h2 : ∀ env, swappedStores [.Subscript (.Name y p2) b pos'] e env = pure none := by intro _; rfl)
    (h3 : ∀ env, List.map (fun x => x.snd) (assignEach [.Subscript (.Name y p2) b pos'] env) = [assign (.Subscript (.Name y p2) b pos') env] := by intro _; rfl)
    (ha : ∀ env v, assign (.Subscript (.Name y p2) b pos') env v = (do
      let ov ← holding [v] (eval (.Name y p2) env)
      let iv ← holding [v, ov] (eval b env)
      standAt pos'
      holding [v, ov, iv] (setItem ov iv v)
      release [v, ov, iv] []) := by intro _ _; rfl) : ES c (.Assign [.Subscript (.Name y p2) b pos'] e pos) (stO i f g) := es_stO hN (vis_of hv) he hb hd hcd h1 h2 h3 ha
theorem xg (i : Nat) {x : Str} {pos : Pos} (hN : c.N[i]? = some x := by kernel_rfl) (h : lcB c.sc c.raw x = true := by kernel_rfl) : EG c (.Name x pos) [i] (put i) := eg_name (lc_of hN h)
theorem xset (i : Nat) {x : Str} {e : Expr} {f : M D} {px pos : Pos} (he : ED c e f) (hN : c.N[i]? = some x := by kernel_rfl) (h : lcB c.sc c.raw x = true := by kernel_rfl) (h1 : ∀ X W, Cz c X W → swapsWithSole [.Name x px] e pos.line X.env = pure false := by intro _ _ _; rfl) (h2 : ∀ X W, Cz c X W → swappedStores [.Name x px] e X.env = pure none := by intro _ _ _; rfl) : ES c (.Assign [.Name x px] e pos) (asgM (put i) f) := es_asg he (eg_name (lc_of hN h)) h1 h2
theorem xsetV (i : Nat) {x : Str} {e : Expr} {f : M Sl} {px pos : Pos} (he : EV c e f) (hN : c.N[i]? = some x := by kernel_rfl) (h : lcB c.sc c.raw x = true := by kernel_rfl) (h1 : ∀ X W, Cz c X W → swapsWith e (some (.Name x px)) pos.line X.env = pure false := by intro _ _ _; rfl) : ES c (.Assign [.Name x px] e pos) (asgV c.np i f) := es_asgV (lc_of hN h) he h1
/-- swappedStores looks at the scope alone -/
def envS (sc : Scope) : Env := { scope := sc, locals := 0, globals := 0, cells := [] }
theorem sw_env (ts : List Expr) (v : Expr) {env : Env} {sc : Scope} (h : env.scope = sc) : swappedStores ts v env = swappedStores ts v (envS sc) := by
  subst h
  rfl
theorem xpar (i j : Nat) {x y : Str} {a b : Expr} {f g : M Sl} {px py pt pt2 pos : Pos} {kt k2 : Nat} (ha : EV c a f) (hb : EV c b g) (hi : c.N[i]? = some x := by kernel_rfl) (hj : c.N[j]? = some y := by kernel_rfl) (hij : (i == j) = false := by rfl) (hx : c.sc.names.lookup x = some .local := by kernel_rfl) (hy : c.sc.names.lookup y = some .local := by kernel_rfl)
    (hw : swappedStores [.Tuple [.Name x px, .Name y py] kt pt] (.Tuple [a, b] k2 pt2) (envS c.sc) = pure (some [x, y]) := by kernel_rfl) (h1 : ∀ env, swapsWithSole [.Tuple [.Name x px, .Name y py] kt pt] (.Tuple [a, b] k2 pt2) pos.line env = pure false := by intro _; rfl)
    (hs : ∀ env, starEach [a, b] env = [(false, eval a env), (false, eval b env)] := by intro _; rfl) (hs2 : ∀ env, starEach [b] env = [(false, eval b env)] := by intro _; rfl) (hc : c.hot = false := by first | rfl | assumption) : ES c (.Assign [.Tuple [.Name x px, .Name y py] kt pt] (.Tuple [a, b] k2 pt2) pos) (parV c.np i j f g) :=
  es_parV hi hj (by simpa using hij) hx hy ha hb (fun X W z => by rw [sw_env _ _ z.sc]; exact hw) h1 hs hs2
theorem xlc (own : List (Str × Nat)) {elt tg iter : Expr} {ifs : List Expr} {scope : Scope} {sl : List Nat} {pos : Pos} {src : M (List D)} {t : Tg} {mt : M Bool} {me : M D} (hi : EI c tg iter src) (hg : EG (c.blk scope) tg sl t) (ht : ETs (c.blk scope) ifs mt) (he : ED (c.blk scope) elt me)
    (ok : blkC c.N c.sc scope own = true := by kernel_rfl) (hsl : (sl.all fun i => (own.map (·.2)).contains i) = true := by rfl) (hs : ∀ env x, foldedSetIterable iter env x = pure x := by intro _ _; rfl) (hc : c.hot = false := by first | rfl | assumption) : ED c (.ListComp elt [⟨tg, iter, ifs, 0⟩] scope pos) (lcM src (own.map (·.2)) t mt me) :=
  ed_lc hi ok hg ht he (fun i h => List.contains_iff_mem.mp (List.all_eq_true.mp hsl i h)) hs
theorem xsetLc (i : Nat) (own : List (Str × Nat)) {y : Str} {py spos : Pos} {elt tg iter : Expr} {ifs : List Expr} {scope : Scope} {sl : List Nat} {pos : Pos} {src : M (List D)} {t : Tg} {mt : M Bool} {me : M D} (hi : EI c tg iter src) (hg : EG (c.blk scope) tg sl t) (ht : ETs (c.blk scope) ifs mt) (he : ED (c.blk scope) elt me)
    (hy : c.N[i]? = some y := by kernel_rfl) (hyl : c.sc.names.lookup y = some .local := by kernel_rfl) (hl : (py.line == pos.line) = true := by rfl) (hk : c.sc.kind = .function := by rfl) (hsc : (scope.names.any fun (n, k) => n == y && (k == .local || k == .cell)) = false := by kernel_rfl) (ok : blkC c.N c.sc scope own = true := by kernel_rfl) (hsl : (sl.all fun i => (own.map (·.2)).contains i) = true := by rfl) (hs : ∀ env x, foldedSetIterable iter env x = pure x := by intro _ _; rfl) (hc : c.hot = false := by first | rfl | assumption) :
    ES c (.Assign [.Name y py] (.ListComp elt [⟨tg, iter, ifs, 0⟩] scope pos) spos) (asgM (put i) (lcM src (own.map (·.2)) t mt me)) := es_setLc hy hyl hl hk hsc hi ok hg ht he (fun i h => List.contains_iff_mem.mp (List.all_eq_true.mp hsl i h)) hs
theorem xsetLcC (i : Nat) {x : Str} {elt : Expr} {gs : List Comprehension} {scope : Scope} {lp : Pos} {f : M D} {px pos : Pos} (he : ED c (.ListComp elt gs scope lp) f) (hc : c.sc.names.lookup x = some .cell := by kernel_rfl) (hN : c.N[i]? = some x := by kernel_rfl) (h : lcB c.sc c.raw x = true := by kernel_rfl) : ES c (.Assign [.Name x px] (.ListComp elt gs scope lp) pos) (asgM (put i) f) :=
  es_asg he (eg_name (lc_of hN h)) (fun X W z => sw_cell (l := pos.line) (by rw [z.sc]; exact hc)) (fun X W z => rfl)
theorem xstrm {id : String} {name : Str} {r : D → List D → Option D} {o e : Expr} {es : List Expr} {fo : M D} {f : M (List D)} {apos cpos : Pos} (hm : MCl c id r) (slot : Slot "str" name id) (hty : typeOf (.builtin id) = pure (.type "method_descriptor")) (ho : ED c o fo) (ha : EA c (e :: es) f)
    (hbase : ∀ env, attributeBase o name env (eval o env) = eval o env := by intro _; rfl)
    (hfew : ∀ env, ((backTo cpos (starEach (e :: es) env)).all (fun x => !x.1) && (backToKw cpos (keywordEach [] env)).all (fun x => x.1.isSome) && decide ((e :: es).length + ([] : List Keyword).length + (if ([] : List Keyword).isEmpty then 0 else 1) < 30)) = true := by intro _; rfl)
    (hline : (apos.endLine == cpos.line) = true := by rfl) (hs : ∀ env, starEach (e :: es) env = (false, eval e env) :: starEach es env := by intro _; rfl) (hpl : ∀ env, (backTo cpos (starEach es env)).any (·.1) = false := by intro _; rfl) :
    ED c (.Call (.Attribute o name apos) (e :: es) [] cpos) (opMt isStr r fo f) := ed_strm hm slot hty ho ha hbase hfew hline hs hpl
theorem xjoin {o e : Expr} {fo : M D} {f : M (List D)} {apos cpos : Pos} (ho : ED c o fo) (ha : EA c [e] f) (hbase : ∀ env, attributeBase o "join" env (eval o env) = eval o env := by intro _; rfl) (hline : (apos.endLine == cpos.line) = true := by rfl)
    (hfew : ∀ env, ((backTo cpos (starEach [e] env)).all (fun x => !x.1) && (backToKw cpos (keywordEach [] env)).all (fun x => x.1.isSome) && decide ([e].length + ([] : List Keyword).length + (if ([] : List Keyword).isEmpty then 0 else 1) < 30)) = true := by intro _; rfl) (hs : ∀ env, starEach [e] env = (false, eval e env) :: starEach [] env := by intro _; rfl) : ED c (.Call (.Attribute o "join" apos) [e] [] cpos) (opMt isStr dJoin fo f) :=
  ed_strm m_join PySem.F.slot_str_join PySem.F.type_str_join ho ha hbase hfew hline hs
theorem xindex {o e : Expr} {fo : M D} {f : M (List D)} {apos cpos : Pos} (ho : ED c o fo) (ha : EA c [e] f) (hbase : ∀ env, attributeBase o "index" env (eval o env) = eval o env := by intro _; rfl) (hline : (apos.endLine == cpos.line) = true := by rfl)
    (hfew : ∀ env, ((backTo cpos (starEach [e] env)).all (fun x => !x.1) && (backToKw cpos (keywordEach [] env)).all (fun x => x.1.isSome) && decide ([e].length + ([] : List Keyword).length + (if ([] : List Keyword).isEmpty then 0 else 1) < 30)) = true := by intro _; rfl) (hs : ∀ env, starEach [e] env = (false, eval e env) :: starEach [] env := by intro _; rfl) : ED c (.Call (.Attribute o "index" apos) [e] [] cpos) (opMt isStr dIndex fo f) :=
  ed_strm m_index PySem.F.slot_str_index PySem.F.type_str_index ho ha hbase hfew hline hs
theorem xrng1 {tg a : Expr} {f : M (List D)} {p pos : Pos} (hm : c.mg "range" = none) (ha : EA c [a] f) (hg : c.sc.names.lookup ("range" : Str) = some .globalImplicit := by kernel_rfl) (hs : ∀ env, starEach [a] env = [(false, eval a env)] := by intro _; rfl) : EI c tg (.Call (.Name "range" p) [a] [] pos) (srcL dRng1 f) := ei_range1 hg hm ha hs
theorem xrng2 {tg a b : Expr} {f : M (List D)} {p pos : Pos} (hm : c.mg "range" = none) (ha : EA c [a, b] f) (hg : c.sc.names.lookup ("range" : Str) = some .globalImplicit := by kernel_rfl) (hs : ∀ env, starEach [a, b] env = [(false, eval a env), (false, eval b env)] := by intro _; rfl) (hs2 : ∀ env, starEach [b] env = [(false, eval b env)] := by intro _; rfl) : EI c tg (.Call (.Name "range" p) [a, b] [] pos) (srcL dRng2 f) := ei_range2 hg hm ha hs hs2
theorem xlist {p pos : Pos} {e : Expr} {f : M D} (hm : c.mg "list" = none) (he : ED c e f) (hg : c.sc.names.lookup ("list" : Str) = some .globalImplicit := by kernel_rfl) (hst : ∀ env, starEach [e] env = [(false, eval e env)] := by intro _; rfl) (hc : c.hot = false := by first | rfl | assumption) : EV c (.Call (.Name "list" p) [e] [] pos) (owSeq f) := ev_list rfl hg hm he hst
/-! ### methods, properties, fields -/
structure Fld (b : Base) (cl f : String) : Prop where
  ex : ∃ C, ClD b cl C ∧ NoAttr b.K C (Str.ofString f)
theorem xattr {cl f : String} {e : Expr} {g : M D} {pos : Pos} (k : Fld c.toBase cl f) (he : ED c e g) (hb : ∀ env x, attributeBase e (Str.ofString f) env x = x := by intro _ _; rfl) : ED c (.Attribute e (Str.ofString f) pos) (op1 (dAttr cl f) g) := let ⟨_, k1, k2⟩ := k.ex; ed_attr k1 k2 he hb
theorem xattrO (i : Nat) {y : Str} {cl f : String} {p2 pos : Pos} (k : Fld c.toBase cl f) (hN : c.N[i]? = some y := by kernel_rfl) (hv : visB c.sc y = true := by kernel_rfl) (hd : (y == ("__debug__" : Str)) = false := by kernel_rfl) (hcd : (y == ("__classdict__" : Str)) = false := by kernel_rfl) : ED c (.Attribute (.Name y p2) (Str.ofString f) pos) (attrO i cl f) := let ⟨_, k1, k2⟩ := k.ex; ed_attrO k1 k2 hN (vis_of hv) hd hcd
theorem xstaO (i : Nat) {y : Str} {cl f : String} {e : Expr} {g : M D} {p2 pos' pos : Pos} (k : Fld c.toBase cl f) (he : ED c e g) (hN : c.N[i]? = some y := by kernel_rfl) (hv : visB c.sc y = true := by kernel_rfl) (hs : ∀ env, swapsWith e (some (.Attribute (.Name y p2) (Str.ofString f) pos')) pos.line env = pure false := by intro _; rfl) (hd : (y == ("__debug__" : Str)) = false := by kernel_rfl) (hcd : (y == ("__classdict__" : Str)) = false := by kernel_rfl) :
    ES c (.Assign [.Attribute (.Name y p2) (Str.ofString f) pos'] e pos) (staO i cl f g) := let ⟨_, k1, k2⟩ := k.ex; es_staO k1 k2 hN (vis_of hv) he hs hd hcd
theorem xmet {k : Nat} {cl m : String} {g : List D → OutF} {o e : Expr} {es : List Expr} {fo : M D} {f : M (List D)} {apos pos : Pos} {pl : Env → Sem Bool} (me : MetD c.toBase k cl m [] g) (ho : ED c o fo) (ha : EA c (e :: es) f) (hk : Nat.ble k c.k = true := by kernel_rfl)
    (hst : ∀ env, starEach (e :: es) env = (false, eval e env) :: starEach es env := by intro _; rfl) (hpl : ∀ env, (backTo pos (starEach es env)).any (·.1) = false := by intro _; rfl)
    (ht : ∀ env, eval (.Call (.Attribute o (Str.ofString m) apos) (e :: es) [] pos) env = (do
      let ov ← eval o env
      standAt apos.atName
      let (f, first) ← holding [ov] (getMethod ov (Str.ofString m) (pl env))
      callWith pos f first (backTo pos (starEach (e :: es) env)) (backToKw pos (keywordEach [] env))) := by intro _; rfl) (hc : c.hot = false := by first | rfl | assumption) : ED c (.Call (.Attribute o (Str.ofString m) apos) (e :: es) [] pos) (metM cl m g fo f) := ed_met me (Nat.le_of_ble_eq_true hk) ho ha hst hpl ht
theorem xpro {k : Nat} {cl m : String} {g : List D → OutF} {o : Expr} {fo : M D} {pos : Pos} (me : PropD c.toBase k cl m g) (ho : ED c o fo) (hk : Nat.ble (k + 1) c.k = true := by kernel_rfl) (hb : ∀ env x, attributeBase o (Str.ofString m) env x = x := by intro _ _; rfl) (hc : c.hot = false := by first | rfl | assumption) : ED c (.Attribute o (Str.ofString m) pos) (proM cl g fo) := ed_pro me (Nat.le_of_ble_eq_true hk) ho hb
theorem xinI {k : Nat} {cl : String} {g : List D → OutF} {a b : Expr} {fa fb : M D} {pos : Pos} (me : MetD c.toBase k cl "__contains__" [] g) (ha : ED c a fa) (hb : ED c b fb) (hk : Nat.ble k c.k = true := by kernel_rfl) (hm : behindInMarks .In b = false := by rfl) (hc : c.hot = false := by first | rfl | assumption) : ED c (.Compare a [.In] [b] pos) (inI cl g false fa fb) := ed_inI (.inl ⟨rfl, rfl⟩) me (Nat.le_of_ble_eq_true hk) ha hb hm
theorem xninI {k : Nat} {cl : String} {g : List D → OutF} {a b : Expr} {fa fb : M D} {pos : Pos} (me : MetD c.toBase k cl "__contains__" [] g) (ha : ED c a fa) (hb : ED c b fb) (hk : Nat.ble k c.k = true := by kernel_rfl) (hm : behindInMarks .NotIn b = false := by rfl) (hc : c.hot = false := by first | rfl | assumption) : ED c (.Compare a [.NotIn] [b] pos) (inI cl g true fa fb) := ed_inI (.inr ⟨rfl, rfl⟩) me (Nat.le_of_ble_eq_true hk) ha hb hm
theorem tinI {k : Nat} {cl : String} {g : List D → OutF} {a b : Expr} {fa fb : M D} {pos : Pos} (me : MetD c.toBase k cl "__contains__" [] g) (ha : ED c a fa) (hb : ED c b fb) (hk : Nat.ble k c.k = true := by kernel_rfl) (hm : behindInMarks .In b = false := by rfl) (hc : c.hot = false := by first | rfl | assumption) : ET c (.Compare a [.In] [b] pos) (tbM (inI cl g false fa fb)) := et_inI (.inl ⟨rfl, rfl⟩) me (Nat.le_of_ble_eq_true hk) ha hb hm
theorem tninI {k : Nat} {cl : String} {g : List D → OutF} {a b : Expr} {fa fb : M D} {pos : Pos} (me : MetD c.toBase k cl "__contains__" [] g) (ha : ED c a fa) (hb : ED c b fb) (hk : Nat.ble k c.k = true := by kernel_rfl) (hm : behindInMarks .NotIn b = false := by rfl) (hc : c.hot = false := by first | rfl | assumption) : ET c (.Compare a [.NotIn] [b] pos) (tbM (inI cl g true fa fb)) := et_inI (.inr ⟨rfl, rfl⟩) me (Nat.le_of_ble_eq_true hk) ha hb hm
theorem tcmp {op : CmpOp} {r : D → D → Option D} {a b : Expr} {f g : M D} {pos : Pos} (h : COp c op r) (ha : ED c a f) (hb : ED c b g) (hm : behindInMarks op b = false := by rfl) : ET c (.Compare a [op] [b] pos) (tbM (op2 r f g)) := et_cmp h ha hb hm
theorem xcmp {op : CmpOp} {r : D → D → Option D} {a b : Expr} {f g : M D} {pos : Pos} (h : COp c op r) (ha : ED c a f) (hb : ED c b g) (hm : behindInMarks op b = false := by rfl) : ED c (.Compare a [op] [b] pos) (op2 r f g) := ed_cmp h ha hb hm
theorem xfrz (i : Nat) {ss : List Stmt} {m : M Fl} (h : ESs c ss m) (hi : Nat.ble c.np i = true := by kernel_rfl) : ESs c ss (frzM i m) := ess_frz (Nat.le_of_ble_eq_true hi) h
end
end DL

namespace DL
open PySem PySem.Spec PyProof.Rows L2 PySem.Froz
/-! ### sets of texts: made of a list, sorted -/
/-- the set's table can be walked -/
structure TxR (P : Program) (w : World) (D : SD) (l : List Str) : Prop extends TxOk P w D l where
  ris : Ris D.2.2.place.toList
  led : w.params.followText "set-order" = true ∨ D.2.2.led = true
section
variable {P : Program} {w : World} {A : Around} {E : Value → Shared → Prop} {s : Shared}
theorem txr_tail {ep : Nat} {es1 : Array (Int × Value)} {t2 : SetTable} {wd : Bool} (r : Ris t2.place.toList) (h : w.params.followText "set-order" = true ∨ t2.led = true) : Ris (tailTx ep es1 t2 wd).2.2.place.toList ∧ (w.params.followText "set-order" = true ∨ (tailTx ep es1 t2 wd).2.2.led = true) := by
  unfold tailTx
  by_cases c : (!wd && t2.tooFull) = true
  · rw [if_pos c]
    exact ⟨relayAll_ris _ _ _, h.imp id fun q => (relayAll_led _ _ _).trans q⟩
  · rw [if_neg c]
    exact ⟨r, h⟩
theorem txr_add {D : SD} {l : List Str} {k : Str} (u : Tok) (F : TxR P w D l) : TxR P w (addTx (hashStr w k) (.str k u) D) (k :: l) := by
  have key : Ris (addTx (hashStr w k) (.str k u) D).2.2.place.toList ∧ (w.params.followText "set-order" = true ∨ (addTx (hashStr w k) (.str k u) D).2.2.led = true) := by
    have h1 := layNew_ris D.2.2 D.1 (hashStr w k) (.str k u) F.ris
    have h2 : w.params.followText "set-order" = true ∨ (layNew D.2.2 D.1 (hashStr w k) (.str k u)).2.1.led = true := F.led.imp id fun h => (layNew_led D.2.2 D.1 _ _).trans h
    refine txr_tail ?_ ?_
    · by_cases c : (layNew D.2.2 D.1 (hashStr w k) (.str k u)).2.1.plain = true
      · rw [if_pos c]; exact h1
      · rw [if_neg c]; exact h1
    · by_cases c : (layNew D.2.2 D.1 (hashStr w k) (.str k u)).2.1.plain = true
      · rw [if_pos c]; exact h2
      · rw [if_neg c]; exact h2
  exact ⟨add_ok u F.toTxOk, key.1, key.2⟩
/-- it is there already -/
theorem old_x {a : Addr} {T : String} {D : SD} {l : List Str} {k : Str} {u : Tok} {Q : Bool → Shared → Prop} (ho : s.heap.get? a = some (sObj T D)) (F : TxOk P w D l) (hk : k ∈ l) (hb : l.length < scanBound) (h : Q false s) : wpAny (model P w) A (setAddHashed a (.str k u) (hashStr w k)) Q E s := by
  obtain ⟨es, ep, t⟩ := D
  have hd : (sObj T (es, ep, t)).data = .set es ep t := rfl
  have hb0 : es.size < scanBound := by have : es.size = l.length := F.sz; omega
  have hkey : (strKind P w).is k (.str k u) = true := is_str k u
  obtain ⟨j, hj⟩ : ∃ j, List.findIdx? (fun e => (strKind P w).is k e.2) es.toList = some j := by
    obtain ⟨e, he, q⟩ := (F.mem k).mp hk
    cases hr : List.findIdx? (fun e => (strKind P w).is k e.2) es.toList with
    | some j => exact ⟨j, rfl⟩
    | none =>
      have := List.findIdx?_eq_none_iff.mp hr e he
      rw [q] at this
      cases this
  unfold setAddHashed setAddHashedIn
  refine wpAny_holding (wpAny_bind (wpAny_setState_of ho hd F.fit ?_))
  dsimp only
  rw [byScan_of rfl hb0 F.el]
  simp only [↓reduceIte]
  unfold setAddByScan
  refine wpAny_bind (wpAny_bind (wpAny_rule ?_))
  refine wpAny_bind (wpAny_setScan_of (knd := strKind P w) (k := k) hkey ho hd F.fit F.el ?_)
  rw [hj]
  exact wpAny_pure (wpAny_pure h)
/-- each once, the later ones first -/
def seen : List Str → List Str → List Str
  | [], l => l
  | k :: r, l => seen r (if k ∈ l then l else k :: l)
theorem add_any {a : Addr} {D : SD} {l : List Str} {k : Str} {u : Tok} {Q : Bool → Shared → Prop} (ho : s.heap.get? a = some (sObj "set" D)) (F : TxR P w D l) (hb : l.length + 1 < scanBound)
    (h : ∀ (b : Bool) (D' : SD) (h' : Heap), TxR P w D' (if k ∈ l then l else k :: l) → h'.get? a = some (sObj "set" D') → (∀ x o, x ≠ a → s.heap.get? x = some o → h'.get? x = some o) → h'.objs.size = s.heap.objs.size → Q b { s with heap := h' }) : wpAny (model P w) A (setAddHashed a (.str k u) (hashStr w k)) Q E s := by
  by_cases hk : k ∈ l
  · refine old_x ho F.toTxOk hk (by omega) ?_
    exact h false D s.heap (by rw [if_pos hk]; exact F) ho (fun _ _ _ e => e) rfl
  · refine add_x ho F.toTxOk hk hb ?_
    refine h true _ _ (by rw [if_neg hk]; exact txr_add u F) (get_upd _ ho rfl) (fun x o hx e => ?_) (Heap.size_update _ _ _)
    rw [Heap.get?_update_other _ _ (Ne.symm hx)]; exact e
theorem seen_len : ∀ (r l : List Str), (seen r l).length ≤ r.length + l.length
  | [], l => by simp [seen]
  | k :: r, l => by
    unfold seen
    by_cases h : k ∈ l
    · rw [if_pos h]; have := seen_len r l; simp; omega
    · rw [if_neg h]; have := seen_len r (k :: l); simp at this ⊢; omega
theorem upd_strs {I : Addr} {fp wr : List Addr} {G : Array GenState → Array GenState → Prop} {n : Nat} {Pv : Nat → Value → Prop} {St : Nat → Shared → Prop} {R : Result → Shared → Prop}
    (W : WalksS P w A.in1 I fp wr G n Pv St) (S : Addr) (hSf : S ∉ fp) (ks : List Str) (hn : n = ks.length) (hval : ∀ i v, Pv i v → ∃ k t, ks[i]? = some k ∧ v = .str k t) :
    ∀ (m i : Nat) (s : Shared) (l : List Str) (D : SD), n - i = m → i ≤ n → St i s → s.heap.get? S = some (sObj "set" D) → TxR P w D l → l.length + (n - i) + 1 < scanBound →
      (∀ s' D', Moved (S :: wr) G s s' → s'.heap.get? S = some (sObj "set" D') → TxR P w D' (seen (ks.drop i) l) → R (.ok (.ret .none)) s') →
      codeAny (model P w) A (.builtin "set.update.loop" ⟨[.ref S, .ref I], []⟩) R s := by
  have hSw : S ∉ wr := fun h => hSf (W.sub _ h)
  have hsub : ∀ b ∈ wr, b ∈ S :: wr := fun b hb => List.mem_cons_of_mem _ hb
  intro m
  induction m with
  | zero =>
    intro i s l D hm hi hst ho F hb hR
    obtain rfl : i = n := by omega
    refine codeAny_builtin PyProof.Rows.F.entry_set_update_loop ?_
    rw [Around.under_plainId PyProof.Rows.F.plain_set_update_loop _]
    show wpAny _ A.in1 (pyNext (.ref I) >>= _) _ _ s
    refine wpAny_bind (W.done s _ _ hst fun s' mv => ?_)
    show wpAny _ A.in1 (PySem.ret Value.none) _ _ s'
    refine wpAny_pure (hR s' D (mv.mono hsub) (mv.heap S _ hSw ho) ?_)
    rw [List.drop_of_length_le (by omega)]
    exact F
  | succ m ih =>
    intro i s l D hm hi hst ho F hb hR
    have hlt : i < n := by omega
    refine codeAny_builtin PyProof.Rows.F.entry_set_update_loop ?_
    rw [Around.under_plainId PyProof.Rows.F.plain_set_update_loop _]
    show wpAny _ A.in1 (pyNext (.ref I) >>= _) _ _ s
    refine wpAny_bind (W.item i s _ _ hlt hst fun v s' hP hst' mv => ?_)
    obtain ⟨z, t, hz, rfl⟩ := hval i v hP
    have ho' := mv.heap S _ hSw ho
    show wpAny _ A.in1 (holding [Value.str z t] (setAdd S (.str z t)) >>= _) _ _ s'
    refine wpAny_bind (wpAny_holding ?_)
    unfold setAdd
    refine wpAny_holding (wpAny_bind ((PySem.strKind P w).pyHash (k := z) (strKind_is _ _ _ _) ?_))
    refine add_any (s := { s' with toks := s'.toks + 1 }) ho' F (by omega) fun b D2 h2 F2 ho2 kp sz2 => ?_
    have hdrop : ks.drop i = z :: ks.drop (i + 1) := by
      obtain ⟨hl, e⟩ := List.getElem?_eq_some_iff.mp hz
      rw [List.drop_eq_getElem_cons hl, e]
    rw [hdrop] at hR
    have hlen : (if z ∈ l then l else z :: l).length ≤ l.length + 1 := by split <;> simp
    refine wpAny_pure ⟨plainId_quiet PyProof.Rows.F.plain_set_update_loop _, ih (i + 1) _ _ D2 (by omega) hlt (W.frame _ s' _ _ hst' (Nat.le_succ _) fun b hb' o e => ?_) ho2 F2 (by omega) fun s'' D3 mv'' ho3 F3 => ?_⟩
    · exact kp b o (fun h => hSf (by rw [← h]; exact hb')) e
    · refine hR s'' D3 (Moved.trans W.gtrans ((mv.mono hsub).then_heap (Nat.le_succ _) fun b o hb' e => ?_) mv'') ho3 F3
      exact kp b o (fun h => hb' (by rw [h]; exact List.mem_cons_self)) e
def set0 (w : World) : Obj := { cls := .type "set", dict := none, data := .set #[] 0 (.fresh 0 0 (!w.params.followText "set-order")) }
theorem txr0 : TxR P w (#[], 0, .fresh 0 0 (!w.params.followText "set-order")) [] := by
  refine ⟨TxOk.nil rfl, List.Pairwise.nil, ?_⟩
  show _ ∨ (!w.params.followText "set-order") = true
  cases w.params.followText "set-order"
  · exact .inr rfl
  · exact .inl rfl
theorem call_set_strs {l : Addr} {items : Array Value} (ks : List Str) {Q : Value → Shared → Prop} (hh : A.handled = none) (hl : s.heap.IsList l items) (hit : StrsAre items.toList ks) (hb : ks.length + 2 < scanBound)
    (h : ∀ (h' : Heap) (tk : Nat) (D : SD), h'.get? s.heap.objs.size = some (sObj "set" D) → TxR P w D (seen ks []) → (∀ b o, s.heap.get? b = some o → h'.get? b = some o) → Q (.ref s.heap.objs.size) { s with heap := h', toks := tk }) :
    wpAny (model P w) A (call (.type "set") [.ref l]) Q E s := by
  have hisz : items.size = ks.length := by
    have q := StrsAre.len_eq hit
    rw [Array.length_toList] at q
    exact q
  obtain ⟨c, tl, hmro⟩ := PySem.F.called_set.mro
  have hmade := PySem.F.called_set.made; have hsub := PySem.F.called_set.sub
  refine wpAny_call (codeAny_of_tree ?_)
  show wpAny _ _ (callAny (.type "set") _) _ _ _
  refine wpAny_pure ⟨Code.quiet_builtin _ (by decide +kernel), codeAny_builtin PySem.F.entry_type_call ?_⟩
  rw [Around.under_plain (weight_type_call_type "set" [.ref l] []) rfl]
  have h1 := PySem.F.called_set.notType; have h2 := PySem.F.called_set.canCreate
  have hct := PySem.F.typeCall_set_1 (.ref l)
  repeat (any_goals (first | assumption | wp_step))
  refine codeAny_mono (code_set_led1 (.ref l) (E := E) (Q₁ := fun obj s₁ => obj = .ref s.heap.objs.size ∧ s₁ = { s with heap := s.heap.push (set0 w) }) ⟨rfl, rfl⟩) fun r s₁ hr => ?_
  cases r with
  | error e => exact hr
  | ok fl =>
    cases fl with
    | ret obj =>
      obtain ⟨rfl, rfl⟩ := hr
      have hS : (s.heap.push (set0 w)).get? s.heap.objs.size = some (set0 w) := Heap.get?_push_size _ rfl
      have hT : Shared.TypeIs { s with heap := s.heap.push (set0 w) } (.ref s.heap.objs.size) "set" := ⟨_, hS, rfl⟩
      have hli := PySem.F.called_set.init.lookup
      have hbi := PySem.F.called_set.init.bind (.ref s.heap.objs.size)
      repeat (any_goals (first | assumption | wp_step))
      refine codeAny_mono (codeAny_call_builtin (R := wants (fun r s₂ => r = .none ∧ ∃ h' tk D, s₂ = { s with heap := h', toks := tk } ∧ h'.get? s.heap.objs.size = some (sObj "set" D) ∧ TxR P w D (seen ks []) ∧ (∀ b o, s.heap.get? b = some o → h'.get? b = some o)) E)
        PySem.F.called_set.init.plain PySem.F.entry_set_init (check_set_init_1 hT ?_)) fun r₂ s₂ hr₂ => ?_
      · obtain ⟨⟨ocls, odict, odata, oslots⟩, hol, hcl, nl, hdl⟩ := hl
        simp only at hcl hdl
        subst hcl; subst hdl
        have hol' : (s.heap.push (set0 w)).get? l = some { cls := .type "list", dict := odict, data := .seq items nl, slots := oslots } := Heap.get?_push_of_some _ hol
        have hsls := PySem.F.sub_list_set; have hslf := PySem.F.sub_list_frozenset
        have hne : (Value.type "list" == Value.type "dict") = false := by decide
        have hl1 : (s.heap.push (set0 w)).IsList l items := ⟨_, hol', rfl, nl, rfl⟩
        unfold Builtin.«set.__init__» noKeywords Builtin.Frozenset.updateFrom
        generalize hPI : pyIter = PI
        wp_walk
        subst hPI
        refine wpAny_pyIter_list hl1 (wpAny_bind (wpAny_runValue ?_))
        have hlS : l < s.heap.objs.size := Heap.lt_size hol
        have hh3 : A.in1.in1.in1.handled = none := by simp [hh]
        have hz1 : (s.heap.push (set0 w)).objs.size = s.heap.objs.size + 1 := Heap.size_push ..
        have hneI : l ≠ (s.heap.push (set0 w)).objs.size := by rw [hz1]; exact Nat.ne_of_lt (Nat.lt_succ_of_lt hlS)
        have hSf : s.heap.objs.size ∉ [(s.heap.push (set0 w)).objs.size, l] := by
          rw [hz1]; simp only [List.mem_cons, List.not_mem_nil, or_false, not_or]; exact ⟨Nat.ne_of_lt (Nat.lt_succ_self _), Nat.ne_of_gt hlS⟩
        have hval : ∀ (i : Nat) (v : Value), items[i]? = some v → ∃ k t, ks[i]? = some k ∧ v = .str k t := fun i v hv => by
          have hi : i < ks.length := by rw [← hisz]; exact (Array.getElem?_eq_some_iff.mp hv).1
          obtain ⟨t, e⟩ := SS.strs_at hit i v (by rw [Array.getElem?_toList]; exact hv)
          refine ⟨ks[i], t, List.getElem?_eq_getElem hi, ?_⟩
          rw [e, List.getD_eq_getElem?_getD, List.getElem?_eq_getElem hi] <;> rfl
        refine upd_strs ((Walks.list hh3 _ l hneI items).toS) s.heap.objs.size hSf ks hisz hval (items.size - 0) 0 _ [] (#[], 0, .fresh 0 0 (!w.params.followText "set-order")) (by omega) (Nat.zero_le _)
          ⟨⟨_, Heap.get?_push_size _ rfl, rfl, rfl⟩, hl1.push _⟩ (Heap.get?_push_of_some _ hS) txr0 (by rw [hisz]; simp; omega) fun s' D' mv ho F => ?_
        obtain ⟨h', g2, d', tk', os'⟩ := s'
        obtain rfl : g2 = s.gens := mv.gens
        obtain rfl : d' = s.drawn := mv.drawn
        obtain rfl : os' = s.os := mv.os
        show wpAny _ _ _ _ _ _
        refine wpAny_pure ?_
        show wpAny _ _ (PySem.ret Value.none) _ _ _
        refine wpAny_pure ⟨rfl, h', tk', D', rfl, ho, F, fun b o e => ?_⟩
        have hb0 : b < s.heap.objs.size := Heap.lt_size e
        refine mv.heap b o ?_ (Heap.get?_push_of_some _ (Heap.get?_push_of_some _ e))
        simp only [List.mem_cons, List.not_mem_nil, or_false, not_or]
        rw [hz1]; exact ⟨Nat.ne_of_lt hb0, Nat.ne_of_lt (Nat.lt_succ_of_lt hb0)⟩
      · cases r₂ with
        | error e => exact hr₂
        | ok fl₂ =>
          cases fl₂ with
          | ret r =>
            obtain ⟨rfl, h', tk, D', rfl, hS', hF', hk'⟩ := hr₂
            repeat (any_goals (first | assumption | wp_step))
            exact h _ _ _ hS' hF' hk'
          | _ => exact hr₂.elim
    | _ => exact hr.elim
theorem perm_of_sub {α : Type} [DecidableEq α] : ∀ {l xs : List α}, l.Nodup → (∀ k ∈ l, k ∈ xs) → xs.length = l.length → l.Perm xs
  | [], xs, _, _, h => by
    cases xs with
    | nil => exact .refl _
    | cons _ _ => cases h
  | k :: l, xs, nd, hs, h => by
    obtain ⟨n1, n2⟩ := List.nodup_cons.mp nd
    have hk := hs k List.mem_cons_self
    refine List.Perm.trans ((perm_of_sub n2 (fun j hj => ?_) ?_).cons k) (List.perm_cons_erase hk).symm
    · exact (List.mem_erase_of_ne (fun e => n1 (by rw [← e]; exact hj))).mpr (hs j (List.mem_cons_of_mem _ hj))
    · rw [List.length_erase_of_mem hk, h]; rfl
def vStr : Value → Str
  | .str k _ => k
  | _ => Str.empty
theorem strs_are : ∀ {vs : List Value}, (∀ v ∈ vs, ∃ k t, v = .str k t) → StrsAre vs (vs.map vStr)
  | [], _ => .nil
  | v :: vs, h => by
    obtain ⟨k, t, rfl⟩ := h v List.mem_cons_self
    exact .cons k t (strs_are fun u hu => h u (List.mem_cons_of_mem _ hu))
theorem sorted_setS {a : Addr} {D : SD} {l : List Str} {Q : Value → Shared → Prop} (ho : s.heap.get? a = some (sObj "set" D)) (F : TxR P w D l) (nd : l.Nodup) (hh : A.handled = none) (h64 : l.length < 64)
    (hQ : ∀ s' p (out : Array Value) (c : Nat) (ys : List Str), (∀ b o, s.heap.get? b = some o → s'.heap.get? b = some o) → s'.gens = s.gens → s'.os = s.os → s.heap.objs.size ≤ p →
      s'.heap.get? p = some (seqObj "list" out c) → StrsAre out.toList ys → ys.Perm l → sortedS ys = true → Q (.ref p) s') :
    wpAny (model P w) A (call (.builtin "sorted") [.ref a]) Q E s := by
  obtain ⟨es, ep, t⟩ := D
  have hsz : es.size = l.length := F.sz
  have sh : ∀ e ∈ es.toList, ∃ k tk, e.2 = Value.str k tk := fun e he => by
    obtain ⟨⟨k, h1, _⟩, _⟩ := F.el e he
    obtain ⟨tk, e1⟩ := Value.isStrOf_shape (x := k) (v := e.2) h1
    exact ⟨k, tk, e1⟩
  refine Calls.call_function_entry kind_sorted plain_sorted entry_sorted (args_sorted1 _) ?_
  unfold Builtin.«sorted»
  refine wpAny_bind (m := checkCount "sorted" 1 1 _) (wpAny_pure ?_)
  refine wpAny_bind (collect_set (A := A.in1) (es := es) (ep := ep) (t := t) hh ⟨_, ho, rfl, rfl⟩ F.fit (by rw [hsz]; unfold scanBound; omega) F.ris F.led fun s1 vs k1 hz g1 o1 pm => ?_)
  have hvl : vs.length = l.length := by rw [pm.length_eq, List.length_map, Array.length_toList]; exact hsz
  have hI : StrsAre vs (vs.map vStr) := strs_are fun v hv => by
    obtain ⟨e, he, q⟩ := List.mem_map.mp (pm.mem_iff.mp hv)
    obtain ⟨k, tk, h1⟩ := sh e he
    exact ⟨k, tk, by rw [← q]; exact h1⟩
  have pl : l.Perm (vs.map vStr) := by
    refine perm_of_sub nd (fun k hk => ?_) (by rw [List.length_map]; exact hvl)
    obtain ⟨e, he, q⟩ := (F.mem k).mp hk
    obtain ⟨tk, e1⟩ := Value.isStrOf_shape (x := k) (v := e.2) q
    exact List.mem_map.mpr ⟨e.2, pm.mem_iff.mpr (List.mem_map.mpr ⟨e, he, rfl⟩), by rw [e1]; rfl⟩
  refine wpAny_bind (wpAny_newList ?_ (by rw [hvl, sizeLine_eq]; omega))
  have hoL : (s1.heap.push (seqObj "list" vs.toArray 0)).get? s1.heap.objs.size = some (seqObj "list" vs.toArray 0) := Heap.get?_push_size _ rfl
  refine wpAny_bind (wpAny_holding (wpAny_call_entry slot_list_sort ⟨_, hoL, rfl⟩ entry_list_sort (list_sort_treeK strKind_oneLt hoL hI.keysOf (fun v₁ v₂ rest e => keyKind_strs (by rw [← e]; exact hI)) (by rw [hvl]; exact h64) fun st' hp hs => ⟨_, rfl, ?_⟩) (args_list_sort _)))
  obtain ⟨ys, g2, g3, g4⟩ := sorted_out_str hI hp hs
  obtain ⟨c, hc⟩ := sortedHeap_at (vs := vs) (out := (arrOf st').map (·.2)) hoL
  refine wpAny_pure ⟨_, rfl, hQ _ s1.heap.objs.size _ c ys (fun b u e => ?_) g1 o1 hz hc g2 (g3.trans pl.symm) g4⟩
  have q := k1 b u e
  have hlt := Heap.lt_size q
  show (sortedHeap (s1.heap.push (seqObj "list" vs.toArray 0)) s1.heap.objs.size vs _).get? b = some u
  rw [sortedHeap_old (Nat.ne_of_lt hlt) (by rw [size_push']; exact Nat.lt_succ_of_lt hlt)]
  exact Heap.get?_push_of_some _ q
end
end DL

namespace DL
open PySem PySem.Spec PyProof.Rows L2 PySem.Froz
def TxO (P : Program) (w : World) (a : Addr) (l : List Str) : HO := .ext fun h => ∃ D, h.get? a = some (sObj "set" D) ∧ TxR P w D l
theorem txo_ok {P : Program} {w : World} {H : Hp} {h : Heap} {a : Addr} {l : List Str} {D : SD} (h1 : h.get? a = some (sObj "set" D)) (h2 : TxR P w D l) : ObjOk P w H h a (TxO P w a l) :=
  ⟨⟨D, h1, h2⟩, ⟨_, h1⟩, fun _ _ ⟨D, q1, q2⟩ k => ⟨D, k _ q1, q2⟩⟩
section
variable {X : Cx}
def rSetS (X : Cx) : List V → Hp → VK → Prop := fun xs H Q => ∃ p ks, xs = [.ref p] ∧ SqL X.K H p (ks.map V.str) ∧ ks.length < 1000 ∧ ∀ a, H a = none → Q (.ref a) (upd H a (TxO X.prog X.w a (seen ks [])))
theorem call_setS (hc : X.calm = true) : CallR X (.type "set") (rSetS X) := by
  intro pins s σ H xs us Q I r ⟨p, ks, ex, hq, hn, q⟩
  subst ex
  obtain ⟨u, rfl, rx⟩ := vals1 r
  cases rx
  obtain ⟨its, rv, pl, hz⟩ := I.list hq
  refine call_set_strs ks (I.ok.hd hc) pl.isList (by rw [List.toList_toArray]; exact rv.strs) (by unfold scanBound; omega) fun h' tk D h1 h2 h3 => ?_
  exact ⟨.ref s.heap.objs.size, _, I.laid (t' := tk) h3 (Nat.le_refl _) (txo_ok h1 h2), rfl, q _ (I.hok.fresh (Nat.le_refl _))⟩
def rSortedTx (X : Cx) : List V → Hp → VK → Prop := fun xs H Q => ∃ a l, xs = [.ref a] ∧ H a = some (TxO X.prog X.w a l) ∧ l.Nodup ∧ l.length < 64 ∧ ∀ (ys : List Str) p, ys.Perm l → sortedS ys = true → H p = none → Q (.ref p) (upd H p (.lst (ys.map V.str)))
theorem cr_sortedTx (hc : X.calm = true) : CallR X (.builtin "sorted") (rSortedTx X) := by
  intro pins s σ H vs us Q I r ⟨a, l, ex, ha, nd, h64, q⟩
  subst ex
  obtain ⟨D, h1, h2⟩ := (I.hok a _ ha).1
  rw [Vals.ref1 r]
  refine sorted_setS h1 h2 nd (I.ok.hd hc) h64 fun s' p out c ys k g o hp hg hi hperm hs => ?_
  have hlen : (ys.map V.str).length ≤ sizeLine := by rw [List.length_map, hperm.length_eq, sizeLine_eq]; omega
  have hn : H p = none := I.hok.fresh hp
  have J : Inv X pins σ (upd H p (.lst (ys.map V.str))) { s with heap := s'.heap, gens := s'.gens, drawn := s'.drawn, toks := s'.toks } :=
    I.call (ch := []) (Un.laid k hp hn) (I.hok.laid k hp ⟨hlen, out.toList, c, vals_of_strs hi, hg⟩) (by rw [g]; exact I.bare) (fun _ z => nomatch z)
  have e : s' = { s with heap := s'.heap, gens := s'.gens, drawn := s'.drawn, toks := s'.toks } := by
    obtain ⟨_, _, _, _, _⟩ := s'
    obtain ⟨_, _, _, _, _⟩ := s
    cases o
    rfl
  rw [e]
  exact ⟨.ref p, _, J, rfl, q ys p hperm hs hn⟩
end
/-! ### by data -/
def dd : List Cs → List Cs → List Cs
  | [], l => l
  | k :: r, l => dd r (if k ∈ l then l else k :: l)
theorem seen_toS : ∀ (r l : List Cs), seen (r.map toS) (l.map toS) = (dd r l).map toS
  | [], l => rfl
  | k :: r, l => by
    unfold dd
    simp only [List.map_cons]
    unfold seen
    have : (toS k ∈ l.map toS) ↔ k ∈ l := ⟨fun h => by obtain ⟨j, h1, h2⟩ := List.mem_map.mp h; rw [← toS_inj h2]; exact h1, fun h => List.mem_map.mpr ⟨k, h, rfl⟩⟩
    by_cases h : k ∈ l
    · rw [if_pos h, if_pos (this.mpr h)]; exact seen_toS r l
    · rw [if_neg h, if_neg (fun q => h (this.mp q))]; exact seen_toS r (k :: l)
theorem seen_nodup : ∀ (r l : List Str), l.Nodup → (seen r l).Nodup
  | [], l, h => h
  | k :: r, l, h => by
    unfold seen
    by_cases q : k ∈ l
    · rw [if_pos q]; exact seen_nodup r l h
    · rw [if_neg q]; exact seen_nodup r (k :: l) (List.nodup_cons.mpr ⟨q, h⟩)
theorem dd_mem : ∀ (r l : List Cs) (x : Cs), x ∈ dd r l ↔ x ∈ r ∨ x ∈ l
  | [], l, x => by simp [dd]
  | k :: r, l, x => by
    unfold dd
    rw [dd_mem r]
    by_cases q : k ∈ l
    · rw [if_pos q]
      constructor
      · rintro (h | h)
        · exact .inl (List.mem_cons_of_mem _ h)
        · exact .inr h
      · rintro (h | h)
        · rcases List.mem_cons.mp h with e | h
          · exact .inr (by rw [e]; exact q)
          · exact .inl h
        · exact .inr h
    · rw [if_neg q]
      simp only [List.mem_cons]
      constructor
      · rintro (h | h | h)
        · exact .inl (.inr h)
        · exact .inl (.inl h)
        · exact .inr h
      · rintro ((h | h) | h)
        · exact .inr (.inl h)
        · exact .inl h
        · exact .inr (.inr h)
def dSortedSet : D → Option D
  | .lst xs => (asStrs xs).bind fun ss => if ss.length < 64 then some (.lst ((sortS (dd ss [])).map .str)) else none
  | _ => none
section
variable {c : Stat}
theorem dd_len (r l : List Cs) : (dd r l).length ≤ r.length + l.length := by
  have h := seen_len (r.map toS) (l.map toS)
  rw [seen_toS] at h
  simpa using h
theorem xsortedSet {e : Expr} {f : M D} {p p2 pos pos2 : Pos} (hm : c.mg "sorted" = none) (hm2 : c.mg "set" = none) (he : ED c e f) (hg : c.sc.names.lookup ("sorted" : Str) = some .globalImplicit := by kernel_rfl) (hg2 : c.sc.names.lookup ("set" : Str) = some .globalImplicit := by kernel_rfl)
    (h1 : ∀ env, starEach [e] env = [(false, eval e env)] := by intro _; rfl) (h2 : ∀ env, starEach [.Call (.Name "set" p2) [e] [] pos2] env = [(false, eval (.Call (.Name "set" p2) [e] [] pos2) env)] := by intro _; rfl) (hc : c.hot = false := by first | rfl | assumption) :
    ED c (.Call (.Name "sorted" p) [.Call (.Name "set" p2) [e] [] pos2] [] pos) (op1 dSortedSet f) := fun G X W z => by
  have gl : ∀ {x : Str}, Gn c x → Gl X x := fun h => Gn.gl h z
  have ps := pe_callTy (p := p2) (pos := pos2) (call_setS (z.calm hc)) (gl hg2) (by rw [z.mg]; exact hm2) bt_set (pa_cons (he G X W z) pa_nil (h1 _)) (by decide) (by decide) (h1 _) rfl
  refine pe_imp (pe_callB (cr_sortedTx (z.calm hc)) (gl hg) (by rw [z.mg]; exact hm) bt_sorted (pa_cons ps pa_nil (h2 _)) (by decide) (by decide) (h2 _) rfl) fun σ H Q ⟨F, ρ, R, q⟩ => ?_
  refine tG_bind R q fun F1 H1 ρ1 x dx s1 R1 rx q1 => ?_
  obtain ⟨d, e, af⟩ := q1.lift R1
  cases rx <;> simp only [dSortedSet] at e <;> try cases e
  rename_i hl rl ll
  obtain ⟨ss, e1, e2⟩ := Option.bind_eq_some_iff.mp e
  split at e2
  case isFalse => cases e2
  rename_i h64
  cases e2
  obtain ⟨rfl, rfl, hk⟩ := strs_of rl e1
  refine ⟨_, ss.map toS, rfl, .inl (same_rd R1.fh hl), by rw [List.length_map]; omega, fun a ha => ?_⟩
  have hd : seen (ss.map toS) [] = (dd ss []).map toS := seen_toS ss []
  have hdl : (dd ss []).length < 64 := by have := dd_len ss []; simp at this; omega
  refine ⟨a, _, rfl, upd_same, seen_nodup _ _ List.nodup_nil, by rw [hd, List.length_map]; exact hdl, fun ys pp hp hs hn => ?_⟩
  rw [hd] at hp
  rw [sortedS_eq hp hs]
  have hpa : pp ≠ a := fun e => by subst e; rw [upd_same] at hn; cases hn
  have hn1 : H1 pp = none := by rw [upd_ne hpa] at hn; exact hn
  have fa : F1 a = none := R1.fh.free ha
  have fp : F1 pp = none := R1.fh.free hn1
  refine af (.ref pp) (upd F1 pp (.lst (((sortS (dd ss [])).map toS).map V.str))) _ ⟨fun b o q => ?_, fun b o q => ?_, fun b o q => ?_, fun b hb => ?_⟩ ?_
  · rw [upd_ne (ne_of_none q fp)]; exact q
  · by_cases hb : b = pp
    · subst hb; rw [upd_same] at q ⊢; exact q
    · rw [upd_ne hb] at q ⊢
      rw [upd_ne (ne_of_none q fa)]; exact R1.fh b o q
  · rw [upd_ne (ne_of_none q hn1), upd_ne (ne_of_none q ha)]; exact q
  · have : b ≠ pp := fun e => by subst e; exact hb hn1
    rw [upd_ne this]
  · refine dn_lst fp (dns_strs fun x hx => ?_) ?_
    · have := sortS_mem.mp hx
      rw [dd_mem] at this
      rcases this with h | h
      · exact hk x h
      · cases h
    · rw [List.length_map, sortS_len]; have : (64 : Nat) ≤ sz := by decide
      omega
end
theorem mem_lk {a : Addr} {o : Obj} : ∀ {K : List (Addr × Obj)}, K.lookup a = some o → ∃ b, (b, o) ∈ K
  | [], h => by cases h
  | (b, p) :: r, h => by
    simp only [List.lookup] at h
    split at h
    · cases h; exact ⟨b, List.mem_cons_self⟩
    · obtain ⟨b', q⟩ := mem_lk h
      exact ⟨b', List.mem_cons_of_mem _ q⟩
theorem noList_of {K : PySem.W.Frag} (h : (K.all fun p => match p.2.cls with
    | .type n => !(n == "list")
    | _ => true) = true) : NoList K := fun a o e hc => by
  obtain ⟨b, hm⟩ := mem_lk e
  have := List.all_eq_true.mp h _ hm
  simp only [hc] at this
  exact absurd this (by decide)
end DL

namespace DL
open PySem L2 PyProof.Rows
/-! ### what the top has left, fact by fact -/
section
variable {K : PySem.W.Frag} {h : Heap} {mg : Str → Option Value} {P : Program} {w : World} {base : Heap} {Ts : List (Addr × Str)}
abbrev mkB (P : Program) (w : World) (K : PySem.W.Frag) (mg : Str → Option Value) (base : Heap) (Ts : List (Addr × Str) := []) : Base := ⟨P, w, K, mg, base, Ts⟩
theorem top_none (X : K.In h) (G : h.Ns mainGlobals mg) {x : Str} (a : PySem.W.nsIn K mainGlobals x = some none) : mg x = none := PySem.W.mg_none_of X G a
theorem top_int (X : K.In h) (G : h.Ns mainGlobals mg) {x : Str} {i : Int} {t : Tok} (a : PySem.W.nsIn K mainGlobals x = some (some (.int i t))) : ∃ t, mg x = some (.int i t) := ⟨t, PySem.W.mg_of X G a⟩
theorem top_fn (X : K.In h) (G : h.Ns mainGlobals mg) {x q : Str} {st : Stmt} {f : Addr} {oc : Value} {od an : Option Addr} {sl : Array (Option Value)} {kV dc pm cd ct : Value} (a : PySem.W.nsIn K mainGlobals x = some (some (.ref f)))
    (l : K.lookup f = some ⟨oc, od, .func (PySem.W.fnOf x q (defArgs st) (defBody st) (defScope st) .none kV dc pm an cd ct), sl⟩) (c : PySem.W.codeIn K cd q = true) (k : PySem.W.keepIn K (.ref f) = true) : ∃ f fd, Fun K x q st f fd ∧ mg x = some (.ref f) :=
  ⟨f, _, fun_mk l c k, PySem.W.mg_of X G a⟩
end
end DL

namespace DL
/-! ### plain reasoning about the readings -/
def wp {α : Type} (m : M α) (ρ : En) (Q : α → En → Prop) : Prop := match m ρ with
  | .ok a ρ' => Q a ρ'
  | _ => False
/-- an option's value -/
def whenS {α : Type} (o : Option α) (Q : α → Prop) : Prop := match o with
  | some a => Q a
  | none => False
/-- what a slot holds -/
def fzAt (s : Option Sl) (Q : D → Prop) : Prop := match s with
  | some (.fz d) => Q d
  | _ => False
/-- behind a statement -/
def nxt (f : Fl) (ρ : En) (b : M Fl) (Q : Fl → En → Prop) : Prop := match f with
  | .nx => wp b ρ Q
  | f => Q f ρ
/-! ### loops -/
theorem for_ok {t : Tg} {body : M Fl} (I : Nat → En → Prop) : ∀ (ds : List D) (k : Nat) (ρ : En), I k ρ → (∀ (i : Nat) d ρ, ds[i]? = some d → I (k + i) ρ → ∃ ρ1 ρ2, t d ρ = some ρ1 ∧ body ρ1 = .ok .nx ρ2 ∧ I (k + i + 1) ρ2) → ∃ ρ', forL t body ds ρ = .ok .nx ρ' ∧ I (k + ds.length) ρ'
  | [], k, ρ, h0, _ => ⟨ρ, rfl, h0⟩
  | d :: r, k, ρ, h0, step => by
    obtain ⟨ρ1, ρ2, h1, h2, h3⟩ := step 0 d ρ rfl h0
    obtain ⟨ρ', h4, h5⟩ := for_ok I r (k + 1) ρ2 h3 fun i e ρ3 he hi => by
      have := step (i + 1) e ρ3 (by simpa using he) (by rw [show k + (i + 1) = k + 1 + i by omega]; exact hi)
      rw [show k + (i + 1) + 1 = k + 1 + i + 1 by omega] at this
      exact this
    refine ⟨ρ', ?_, by rw [List.length_cons, show k + (r.length + 1) = k + 1 + r.length by omega]; exact h5⟩
    unfold forL
    simp only [h1, h2]
    exact h4
theorem lc_pure {vs : List Nat} {t : Tg} {mt : M Bool} {me : M D} {ρ : En} (p : D → Bool) (f : D → D) : ∀ (ds : List D), (∀ d ∈ ds, ∃ ρ1, t d ρ = some ρ1 ∧ mt ρ1 = .ok (p d) ρ1 ∧ (p d = true → me ρ1 = .ok (f d) ρ1) ∧ noOw ρ1 vs = true ∧ wipeE ρ1 vs = ρ) → ∀ acc, lcL vs t mt me ds acc ρ = .ok (acc ++ (ds.filter p).map f) ρ
  | [], _, acc => by simp [lcL, DL.ret]
  | d :: r, h, acc => by
    obtain ⟨ρ1, h1, h2, h3, h4, h5⟩ := h d List.mem_cons_self
    have ih := lc_pure p f r (fun e he => h e (List.mem_cons_of_mem _ he))
    unfold lcL
    simp only [h1, h2]
    cases e : p d with
    | true => simp only [h3 e, h4, if_true, h5, ih]; simp [e]
    | false => simp only [h4, if_true, h5, ih]; simp [e]
theorem lc_inv {vs : List Nat} {t : Tg} {mt : M Bool} {me : M D} (I : Nat → List D → En → Prop) : ∀ (ds : List D) (k : Nat) (acc : List D) (ρ : En), I k acc ρ → (∀ (i : Nat) d acc ρ, ds[i]? = some d → I (k + i) acc ρ → ∃ ρ1 b ρ2, t d ρ = some ρ1 ∧ mt ρ1 = .ok b ρ2 ∧
      ((b = true ∧ ∃ y ρ3, me ρ2 = .ok y ρ3 ∧ noOw ρ3 vs = true ∧ I (k + i + 1) (acc ++ [y]) (wipeE ρ3 vs)) ∨ (b = false ∧ noOw ρ2 vs = true ∧ I (k + i + 1) acc (wipeE ρ2 vs)))) → ∃ ys ρ', lcL vs t mt me ds acc ρ = .ok ys ρ' ∧ I (k + ds.length) ys ρ'
  | [], k, acc, ρ, h0, _ => ⟨acc, ρ, rfl, h0⟩
  | d :: r, k, acc, ρ, h0, step => by
    obtain ⟨ρ1, b, ρ2, h1, h2, h3⟩ := step 0 d acc ρ rfl h0
    have next : ∀ acc2 ρ4, I (k + 0 + 1) acc2 ρ4 → ∃ ys ρ', lcL vs t mt me r acc2 ρ4 = .ok ys ρ' ∧ I (k + (d :: r).length) ys ρ' := fun acc2 ρ4 hI => by
      obtain ⟨ys, ρ', q1, q2⟩ := lc_inv I r (k + 1) acc2 ρ4 hI fun i e acc3 ρ3 he hi => by
        have := step (i + 1) e acc3 ρ3 (by simpa using he) (by rw [show k + (i + 1) = k + 1 + i by omega]; exact hi)
        rw [show k + (i + 1) + 1 = k + 1 + i + 1 by omega] at this
        exact this
      exact ⟨ys, ρ', q1, by rw [List.length_cons, show k + (r.length + 1) = k + 1 + r.length by omega]; exact q2⟩
    unfold lcL
    simp only [h1, h2]
    rcases h3 with ⟨rfl, y, ρ3, h4, h5, h6⟩ | ⟨rfl, h5, h6⟩
    · obtain ⟨ys, ρ', q1, q2⟩ := next _ _ h6
      exact ⟨ys, ρ', by simp only [h4, h5, if_true]; exact q1, q2⟩
    · obtain ⟨ys, ρ', q1, q2⟩ := next _ _ h6
      exact ⟨ys, ρ', by simp only [h5, if_true]; exact q1, q2⟩
theorem lc_filt {α : Type} {vs : List Nat} {t : Tg} {mt : M Bool} {me : M D} {ρ : En} (g : α → D) (p : α → Bool) (f : α → D) : ∀ (xs : List α), (∀ x ∈ xs, ∃ ρ1, t (g x) ρ = some ρ1 ∧ mt ρ1 = .ok (p x) ρ1 ∧ (p x = true → me ρ1 = .ok (f x) ρ1) ∧ noOw ρ1 vs = true ∧ wipeE ρ1 vs = ρ) → ∀ acc, lcL vs t mt me (xs.map g) acc ρ = .ok (acc ++ (xs.filter p).map f) ρ
  | [], _, acc => by simp [lcL, DL.ret]
  | d :: r, h, acc => by
    obtain ⟨ρ1, h1, h2, h3, h4, h5⟩ := h d List.mem_cons_self
    have ih := lc_filt g p f r (fun e he => h e (List.mem_cons_of_mem _ he))
    simp only [List.map_cons]
    unfold lcL
    simp only [h1, h2]
    cases e : p d with
    | true => simp only [h3 e, h4, if_true, h5, ih]; simp [e]
    | false => simp only [h4, if_true, h5, ih]; simp [e]
theorem lcM_filt {α : Type} {src : M (List D)} {vs : List Nat} {t : Tg} {mt : M Bool} {me : M D} {ρ ρ0 : En} {xs : List α} (g : α → D) (p : α → Bool) (f : α → D) (hs : src ρ = .ok (xs.map g) ρ0) (hn : noOw ρ0 vs = true) (h : ∀ x ∈ xs, ∃ ρ1, t (g x) (wipeE ρ0 vs) = some ρ1 ∧ mt ρ1 = .ok (p x) ρ1 ∧ (p x = true → me ρ1 = .ok (f x) ρ1) ∧ noOw ρ1 vs = true ∧ wipeE ρ1 vs = wipeE ρ0 vs) :
    lcM src vs t mt me ρ = .ok (.lst ((xs.filter p).map f)) (back ρ0 (wipeE ρ0 vs) vs) := by
  unfold lcM bnd
  simp only [hs, hn, if_true]
  rw [lc_filt g p f xs h []]
  simp
theorem lcM_map {α : Type} {src : M (List D)} {vs : List Nat} {t : Tg} {mt : M Bool} {me : M D} {ρ ρ0 : En} {xs : List α} (g : α → D) (f : α → D) (hs : src ρ = .ok (xs.map g) ρ0) (hn : noOw ρ0 vs = true) (h : ∀ x ∈ xs, ∃ ρ1, t (g x) (wipeE ρ0 vs) = some ρ1 ∧ mt ρ1 = .ok true ρ1 ∧ me ρ1 = .ok (f x) ρ1 ∧ noOw ρ1 vs = true ∧ wipeE ρ1 vs = wipeE ρ0 vs) :
    lcM src vs t mt me ρ = .ok (.lst (xs.map f)) (back ρ0 (wipeE ρ0 vs) vs) := by
  have := lcM_filt g (fun _ => true) f hs hn fun x hx => let ⟨ρ1, h1, h2, h3, h4, h5⟩ := h x hx; ⟨ρ1, h1, h2, fun _ => h3, h4, h5⟩
  have e : xs.filter (fun _ => true) = xs := List.filter_eq_self.mpr fun _ _ => rfl
  rw [e] at this
  exact this
end DL

namespace DL
open PySem L2
/-- an equation that simp takes for no plain computation -/
theorem nrfl {α : Sort _} {a b : α} (h : a = b) : a = b := h
/-! ### forgetting names at the end of a turn -/
def wipeA (ws : List Nat) (ρ : En) : En := ws.foldr (fun i r => r.set i .un) ρ
def wipM (ws : List Nat) (m : M Fl) : M Fl := fun ρ => match m ρ with
  | .ok f ρ' => .ok f (wipeA ws ρ')
  | .err x ρ' => .err x ρ'
  | .bad => .bad
theorem Rel.wipe1 {c : Stat} {G : Ent} {F H : Hp} {σ : L2.St} {ρ : En} {i : Nat} (R : Rel c.K c.mg c.xt G F H σ ρ) (hp : ∀ p ∈ G.pa, p.1 ≠ i) : Rel c.K c.mg c.xt G F H σ (ρ.set i .un) := by
  have old : ∀ (j : Nat) (s : Sl), (ρ.set i .un)[j]? = some s → s = .un ∨ (j ≠ i ∧ ρ[j]? = some s) := fun j s q => by
    by_cases hj : j = i
    · subst hj
      by_cases hl : j < ρ.length
      · rw [List.getElem?_set_self hl] at q; cases q; exact .inl rfl
      · rw [List.getElem?_eq_none (by rw [List.length_set]; omega)] at q; cases q
    · rw [List.getElem?_set_ne (Ne.symm hj)] at q
      exact .inr ⟨hj, q⟩
  refine ⟨R.f0, R.fh, R.kept, R.par, fun j d e => ?_, fun j d e => ?_, fun j k a d e hjk q1 q2 q3 => ?_, ?_, fun p hm => ?_, R.fn, R.tbs, R.tb, R.xcSet (fun x q => by cases q) fun _ _ => rfl⟩
  · rcases old j _ e with q | ⟨_, q⟩
    · cases q
    · exact R.fz j d q
  · rcases old j _ e with q | ⟨_, q⟩
    · cases q
    · exact R.ow j d q
  · rcases old j _ q1 with q | ⟨_, q1'⟩
    · cases q
    rcases old k _ q2 with q | ⟨_, q2'⟩
    · cases q
    exact R.ne j k a d e hjk q1' q2' q3
  · rw [List.length_set]; exact R.len
  · obtain ⟨d, q⟩ := R.pw p hm
    exact ⟨d, by rw [List.getElem?_set_ne (Ne.symm (hp p hm))]; exact q⟩
theorem Rel.wipeA {c : Stat} {G : Ent} {F H : Hp} {σ : L2.St} {ρ : En} (R : Rel c.K c.mg c.xt G F H σ ρ) : ∀ {ws : List Nat}, (∀ i ∈ ws, ∀ p ∈ G.pa, p.1 ≠ i) → Rel c.K c.mg c.xt G F H σ (DL.wipeA ws ρ)
  | [], _ => R
  | w :: ws, h => (R.wipeA (ws := ws) fun i hi => h i (List.mem_cons_of_mem _ hi)).wipe1 (h w List.mem_cons_self)
theorem wipeA_ow {d : D} {i : Nat} {ρ : En} : ∀ {ws : List Nat}, (DL.wipeA ws ρ)[i]? = some (.ow d) → ρ[i]? = some (.ow d)
  | [], h => h
  | w :: ws, h => by
    have h : ((DL.wipeA ws ρ).set w .un)[i]? = some (.ow d) := h
    by_cases hj : w = i
    · subst hj
      by_cases hl : w < (DL.wipeA ws ρ).length
      · rw [List.getElem?_set_self hl] at h; cases h
      · rw [List.getElem?_eq_none (by rw [List.length_set]; omega)] at h; cases h
    · rw [List.getElem?_set_ne hj] at h
      exact wipeA_ow (ws := ws) h
theorem PostS.wip {c : Stat} {G : Ent} {W : WX} {F : Hp} {Z : Ends} {ws : List Nat} {m : M Fl} {ρ : En} (hw : ∀ i ∈ ws, ∀ p ∈ G.pa, p.1 ≠ i) (h : PostS c G W F (wipM ws m ρ) Z) : PostS c G W F (m ρ) Z := by
  unfold wipM at h
  cases e : m ρ with
  | bad => rw [e] at h; exact h
  | err x ρ' => rw [e] at h; exact h
  | ok f ρ' =>
    rw [e] at h
    cases f with
    | nx => exact fun σ2 F2 H2 s2 R2 => h σ2 F2 H2 s2 (R2.wipeA hw)
    | bk => exact fun σ2 F2 H2 s2 R2 => h σ2 F2 H2 s2 (R2.wipeA hw)
    | ct => exact fun σ2 F2 H2 s2 R2 => h σ2 F2 H2 s2 (R2.wipeA hw)
    | rt d => exact fun v σ2 F2 H2 s2 R2 dn => h v σ2 F2 H2 s2 (R2.wipeA hw) dn
    | ro d => exact fun v σ2 F2 H2 s2 R2 dn q => h v σ2 F2 H2 s2 (R2.wipeA hw) dn fun i e he => q i e (wipeA_ow he)
theorem ess_wip {c : Stat} {ss : List Stmt} {m : M Fl} (ws : List Nat) (hs : ESs c ss m) (hb : (ws.all fun i => Nat.ble c.np i) = true) : ESs c ss (wipM ws m) := fun G X W p z => by
  have hw : ∀ i ∈ ws, c.np ≤ i := fun i hi => Nat.le_of_ble_eq_true (List.all_eq_true.mp hb i hi)
  refine pss_imp (hs G X W p z) fun Z σ H ⟨F, ρ, R, q⟩ => ⟨F, ρ, R, PostS.wip (fun i hi pr hpr e => ?_) q⟩
  have := p pr hpr
  have := hw i hi
  omega

/-! ### answers without a frame -/
inductive R (α : Type) where
  | ok (a : α) | err (x : Xc) | bad
def R.of {α : Type} : Option α → R α
  | some a => .ok a
  | none => .bad
def R.bind {α β : Type} (r : R α) (f : α → R β) : R β := match r with
  | .ok a => f a
  | .err x => .err x
  | .bad => .bad
/-- an answer, then what is done at a frame -/
def R.k {α β : Type} (r : R α) (ρ : En) (f : α → Out β) : Out β := match r with
  | .ok a => f a
  | .err x => .err x ρ
  | .bad => .bad
def Out.b {α β : Type} (o : Out α) (f : α → M β) : Out β := match o with
  | .ok a ρ => f a ρ
  | .err x ρ => .err x ρ
  | .bad => .bad
def Out.s (o : Out Fl) (b : M Fl) : Out Fl := match o with
  | .ok .nx ρ => b ρ
  | .ok f ρ => .ok f ρ
  | .err x ρ => .err x ρ
  | .bad => .bad
def Out.toR {α : Type} : Out α → R α
  | .ok a _ => .ok a
  | .err x _ => .err x
  | .bad => .bad
/-- what a call gives -/
def rF : OutF → R D
  | .ok d _ => .ok d
  | .err x _ => .err x
  | _ => .bad
section
variable {α β γ : Type}
@[simp] theorem R.of_some (a : α) : R.of (some a) = .ok a := nrfl rfl
@[simp] theorem R.of_none : R.of (none : Option α) = .bad := nrfl rfl
@[simp] theorem R.bind_ok (a : α) (f : α → R β) : (R.ok a).bind f = f a := nrfl rfl
@[simp] theorem R.bind_err (x : Xc) (f : α → R β) : (R.err x : R α).bind f = .err x := nrfl rfl
@[simp] theorem R.bind_bad (f : α → R β) : (R.bad : R α).bind f = .bad := nrfl rfl
@[simp] theorem R.bind_bind (r : R α) (f : α → R β) (g : β → R γ) : (r.bind f).bind g = r.bind fun a => (f a).bind g := by cases r <;> rfl
@[simp] theorem R.k_ok (a : α) (ρ : En) (f : α → Out β) : (R.ok a).k ρ f = f a := nrfl rfl
@[simp] theorem R.k_err (x : Xc) (ρ : En) (f : α → Out β) : (R.err x : R α).k ρ f = .err x ρ := nrfl rfl
@[simp] theorem R.k_bad (ρ : En) (f : α → Out β) : (R.bad : R α).k ρ f = .bad := nrfl rfl
@[simp] theorem R.bind_k (r : R α) (f : α → R β) (ρ : En) (g : β → Out γ) : (r.bind f).k ρ g = r.k ρ fun a => (f a).k ρ g := by cases r <;> rfl
@[simp] theorem Out.b_ok (a : α) (ρ : En) (f : α → M β) : (Out.ok a ρ).b f = f a ρ := nrfl rfl
@[simp] theorem Out.b_err (x : Xc) (ρ : En) (f : α → M β) : (Out.err x ρ : Out α).b f = .err x ρ := nrfl rfl
@[simp] theorem Out.b_bad (f : α → M β) : (Out.bad : Out α).b f = .bad := nrfl rfl
@[simp] theorem R.k_b (r : R α) (ρ : En) (f : α → Out β) (g : β → M γ) : (r.k ρ f).b g = r.k ρ fun a => (f a).b g := by cases r <;> rfl
@[simp] theorem Out.b_b (o : Out α) (f : α → M β) (g : β → M γ) : (o.b f).b g = o.b fun a ρ => (f a ρ).b g := by cases o <;> rfl
@[simp] theorem Out.s_nx (ρ : En) (b : M Fl) : (Out.ok Fl.nx ρ).s b = b ρ := nrfl rfl
@[simp] theorem Out.s_rt (d : D) (ρ : En) (b : M Fl) : (Out.ok (Fl.rt d) ρ).s b = .ok (.rt d) ρ := nrfl rfl
@[simp] theorem Out.s_ro (d : D) (ρ : En) (b : M Fl) : (Out.ok (Fl.ro d) ρ).s b = .ok (.ro d) ρ := nrfl rfl
@[simp] theorem Out.s_bk (ρ : En) (b : M Fl) : (Out.ok Fl.bk ρ).s b = .ok .bk ρ := nrfl rfl
@[simp] theorem Out.s_ct (ρ : En) (b : M Fl) : (Out.ok Fl.ct ρ).s b = .ok .ct ρ := nrfl rfl
@[simp] theorem Out.s_err (x : Xc) (ρ : En) (b : M Fl) : (Out.err x ρ).s b = .err x ρ := nrfl rfl
@[simp] theorem Out.s_bad (b : M Fl) : (Out.bad).s b = .bad := nrfl rfl
@[simp] theorem R.k_s (r : R α) (ρ : En) (f : α → Out Fl) (b : M Fl) : (r.k ρ f).s b = r.k ρ fun a => (f a).s b := by cases r <;> rfl
@[simp] theorem Out.s_ite (p : Prop) [Decidable p] (x y : Out Fl) (b : M Fl) : (if p then x else y).s b = if p then x.s b else y.s b := by split <;> rfl
@[simp] theorem Out.b_ite (p : Prop) [Decidable p] (x y : Out α) (f : α → M β) : (if p then x else y).b f = if p then x.b f else y.b f := by split <;> rfl
@[simp] theorem Out.toR_ok (a : α) (ρ : En) : (Out.ok a ρ).toR = .ok a := nrfl rfl
@[simp] theorem Out.toR_err (x : Xc) (ρ : En) : (Out.err x ρ : Out α).toR = .err x := nrfl rfl
@[simp] theorem Out.toR_bad : (Out.bad : Out α).toR = .bad := nrfl rfl
@[simp] theorem Out.toR_k (r : R α) (ρ : En) (f : α → Out β) : (r.k ρ f).toR = r.bind fun a => (f a).toR := by cases r <;> rfl
@[simp] theorem Out.toR_ite (p : Prop) [Decidable p] (x y : Out α) : (if p then x else y).toR = if p then x.toR else y.toR := by split <;> rfl
@[simp] theorem R.bind_ite (p : Prop) [Decidable p] (x y : R α) (f : α → R β) : (if p then x else y).bind f = if p then x.bind f else y.bind f := by split <;> rfl
@[simp] theorem R.k_ite (p : Prop) [Decidable p] (x y : R α) (ρ : En) (f : α → Out β) : (if p then x else y).k ρ f = if p then x.k ρ f else y.k ρ f := by split <;> rfl
@[simp] theorem R.of_ite (p : Prop) [Decidable p] (x y : Option α) : R.of (if p then x else y) = if p then R.of x else R.of y := by split <;> rfl
@[simp] theorem rF_ok (d : D) (es : List D) : rF (.ok d es) = .ok d := nrfl rfl
@[simp] theorem rF_err (x : Xc) (es : List D) : rF (.err x es) = .err x := nrfl rfl
@[simp] theorem rF_bad : rF .bad = .bad := nrfl rfl
/-! ### words at a frame -/
@[simp] theorem at_bnd (m : M α) (f : α → M β) (ρ : En) : bnd m f ρ = (m ρ).b f := nrfl rfl
@[simp] theorem at_ret (a : α) (ρ : En) : DL.ret a ρ = .ok a ρ := nrfl rfl
@[simp] theorem at_lift (o : Option α) (ρ : En) : lift o ρ = (R.of o).k ρ fun a => .ok a ρ := by cases o <;> rfl
def fzR : Option Sl → R D
  | some (.fz d) => .ok d
  | _ => .bad
@[simp] theorem fzR_fz (d : D) : fzR (some (.fz d)) = .ok d := nrfl rfl
@[simp] theorem at_v (i : Nat) (ρ : En) : v i ρ = (fzR ρ[i]?).k ρ fun d => .ok d ρ := by
  unfold v fzR
  generalize ρ[i]? = o
  cases o with
  | none => rfl
  | some s => cases s <;> rfl
@[simp] theorem at_cn (d : D) (ρ : En) : cn d ρ = .ok d ρ := nrfl rfl
@[simp] theorem at_op1 (r : D → Option D) (a : M D) (ρ : En) : op1 r a ρ = (a ρ).b fun x => lift (r x) := nrfl rfl
@[simp] theorem at_op2 (r : D → D → Option D) (a b : M D) (ρ : En) : op2 r a b ρ = (a ρ).b fun x ρ1 => (b ρ1).b fun y => lift (r x y) := nrfl rfl
@[simp] theorem at_args0 (ρ : En) : args0 ρ = .ok [] ρ := nrfl rfl
@[simp] theorem at_argc (a : M D) (r : M (List D)) (ρ : En) : argc a r ρ = (a ρ).b fun x ρ1 => (r ρ1).b fun xs ρ2 => .ok (x :: xs) ρ2 := nrfl rfl
@[simp] theorem at_opL (r : List D → Option D) (a : M (List D)) (ρ : En) : opL r a ρ = (a ρ).b fun x => lift (r x) := nrfl rfl
@[simp] theorem at_opMt (T : D → Bool) (r : D → List D → Option D) (o : M D) (a : M (List D)) (ρ : En) : opMt T r o a ρ = (o ρ).b fun x ρ1 => if T x then (a ρ1).b fun xs => lift (r x xs) else .bad := by
  unfold opMt bnd
  cases o ρ with
  | ok x ρ1 => dsimp only [Out.b]; split <;> rfl
  | err x ρ1 => rfl
  | bad => rfl
@[simp] theorem at_tbM (a : M D) (ρ : En) : tbM a ρ = (a ρ).b fun x => lift (asB x) := nrfl rfl
@[simp] theorem at_trM (a : M D) (ρ : En) : trM a ρ = (a ρ).b fun x => lift (tru x) := nrfl rfl
@[simp] theorem at_notT (a : M Bool) (ρ : En) : notT a ρ = (a ρ).b fun x ρ1 => .ok (!x) ρ1 := nrfl rfl
theorem b_if {p : α → Bool} (o : Out α) (f g : α → M β) : (o.b fun x => if p x then f x else g x) = o.b fun x ρ1 => if p x then f x ρ1 else g x ρ1 := by
  cases o with
  | ok x ρ1 => show (if p x then f x else g x) ρ1 = _; dsimp only [Out.b]; split <;> rfl
  | err x ρ1 => rfl
  | bad => rfl
@[simp] theorem at_andT (a b : M Bool) (ρ : En) : andT a b ρ = (a ρ).b fun x ρ1 => if x then b ρ1 else .ok false ρ1 := b_if (p := fun x => x) (a ρ) (fun _ => b) (fun _ => DL.ret false)
@[simp] theorem at_orT (a b : M Bool) (ρ : En) : orT a b ρ = (a ρ).b fun x ρ1 => if x then .ok true ρ1 else b ρ1 := b_if (p := fun x => x) (a ρ) (fun _ => DL.ret true) (fun _ => b)
@[simp] theorem at_ifE (t : M Bool) (a b : M D) (ρ : En) : ifE t a b ρ = (t ρ).b fun x ρ1 => if x then a ρ1 else b ρ1 := b_if (p := fun x => x) (t ρ) (fun _ => a) (fun _ => b)
@[simp] theorem at_ifM (t : M Bool) (a b : M Fl) (ρ : En) : ifM t a b ρ = (t ρ).b fun x ρ1 => if x then a ρ1 else b ρ1 := b_if (p := fun x => x) (t ρ) (fun _ => a) (fun _ => b)
@[simp] theorem at_andV (a b : M D) (ρ : En) : andV a b ρ = (a ρ).b fun x ρ1 => (R.of (tru x)).k ρ1 fun t => if t then b ρ1 else .ok x ρ1 := by
  unfold andV bnd; cases a ρ with
  | ok x ρ1 => dsimp only [Out.b]; cases tru x with
    | none => rfl
    | some t => cases t <;> rfl
  | err x ρ1 => rfl
  | bad => rfl
@[simp] theorem at_orV (a b : M D) (ρ : En) : orV a b ρ = (a ρ).b fun x ρ1 => (R.of (tru x)).k ρ1 fun t => if t then .ok x ρ1 else b ρ1 := by
  unfold orV bnd; cases a ρ with
  | ok x ρ1 => dsimp only [Out.b]; cases tru x with
    | none => rfl
    | some t => cases t <;> rfl
  | err x ρ1 => rfl
  | bad => rfl
@[simp] theorem at_notV (a : M D) (ρ : En) : notV a ρ = (a ρ).b fun x ρ1 => (R.of (tru x)).k ρ1 fun t => .ok (.bl (!t)) ρ1 := by
  unfold notV bnd; cases a ρ with
  | ok x ρ1 => dsimp only [Out.b]; cases tru x <;> rfl
  | err x ρ1 => rfl
  | bad => rfl
@[simp] theorem at_chM (r r' : D → D → Option D) (a b e : M D) (ρ : En) : chM r r' a b e ρ = (a ρ).b fun x ρ1 => (b ρ1).b fun y ρ2 => (R.of ((r x y).bind asB)).k ρ2 fun k => if k then (e ρ2).b fun w => lift (r' y w) else .ok (.bl false) ρ2 := by
  unfold chM bnd; cases a ρ with
  | ok x ρ1 => dsimp only [Out.b]; cases b ρ1 with
    | ok y ρ2 => dsimp only; cases (r x y).bind asB with
      | none => rfl
      | some t => cases t <;> rfl
    | err x ρ1 => rfl
    | bad => rfl
  | err x ρ1 => rfl
  | bad => rfl
@[simp] theorem at_opt (m : M D) (ρ : En) : opt m ρ = (m ρ).b fun x ρ1 => (R.of (asI x)).k ρ1 fun i => .ok (some i) ρ1 := by
  unfold opt bnd; cases m ρ with
  | ok x ρ1 => dsimp only [Out.b]; cases asI x <;> rfl
  | err x ρ1 => rfl
  | bad => rfl
@[simp] theorem at_slM (a : M D) (lo hi : M (Option Int)) (ρ : En) : slM a lo hi ρ = (a ρ).b fun x ρ1 => (lo ρ1).b fun l ρ2 => (hi ρ2).b fun h => lift (dSl x l h) := nrfl rfl
@[simp] theorem at_seqM (a b : M Fl) (ρ : En) : seqM a b ρ = (a ρ).s b := by
  unfold seqM bnd Out.s; cases a ρ with
  | ok f ρ1 => cases f <;> rfl
  | err x ρ1 => rfl
  | bad => rfl
@[simp] theorem at_retM (e : M D) (ρ : En) : retM e ρ = (e ρ).b fun d ρ1 => .ok (.rt d) ρ1 := nrfl rfl
@[simp] theorem at_retN (ρ : En) : retN ρ = .ok (.rt .non) ρ := nrfl rfl
@[simp] theorem at_dropM (e : M D) (ρ : En) : dropM e ρ = (e ρ).b fun _ ρ1 => .ok .nx ρ1 := nrfl rfl
@[simp] theorem at_passM (ρ : En) : passM ρ = .ok .nx ρ := nrfl rfl
def asgO : Option En → Out Fl
  | some ρ => .ok .nx ρ
  | none => .bad
@[simp] theorem asgO_some (ρ : En) : asgO (some ρ) = .ok .nx ρ := nrfl rfl
@[simp] theorem at_asgM (t : Tg) (e : M D) (ρ : En) : asgM t e ρ = (e ρ).b fun d ρ1 => asgO (t d ρ1) := by
  unfold asgM bnd asgO; cases e ρ <;> rfl
def putO (s : Option Sl) (ρ : En) (i : Nat) (d : D) : Option En := match s with
  | some (.ow _) => none
  | some _ => some (ρ.set i (.fz d))
  | none => none
@[simp] theorem putO_un (ρ : En) (i : Nat) (d : D) : putO (some .un) ρ i d = some (ρ.set i (.fz d)) := nrfl rfl
@[simp] theorem putO_fz (e : D) (ρ : En) (i : Nat) (d : D) : putO (some (.fz e)) ρ i d = some (ρ.set i (.fz d)) := nrfl rfl
@[simp] theorem at_put (i : Nat) (d : D) (ρ : En) : put i d ρ = putO ρ[i]? ρ i d := nrfl rfl
@[simp] theorem at_tgN (ρ : En) : tgN [] ρ = some ρ := nrfl rfl
@[simp] theorem at_tgC (t : Tg) (u : List D → En → Option En) (d : D) (r : List D) (ρ : En) : tgC t u (d :: r) ρ = (t d ρ).bind (u r) := nrfl rfl
@[simp] theorem at_tgT (n : Nat) (t : List D → En → Option En) (ds : List D) (ρ : En) : tgT n t (.tup ds) ρ = if ds.length = n then t ds ρ else none := nrfl rfl
@[simp] theorem at_forM (src : M (List D)) (t : Tg) (body : M Fl) (ρ : En) : forM src t body ρ = (src ρ).b (forL t body) := nrfl rfl
@[simp] theorem at_seqS (a : M D) (ρ : En) : seqS a ρ = (a ρ).b fun x => lift (dSeq x) := nrfl rfl
@[simp] theorem at_srcL (r : List D → Option (List D)) (a : M (List D)) (ρ : En) : srcL r a ρ = (a ρ).b fun x => lift (r x) := nrfl rfl
@[simp] theorem at_keysS (a : M D) (ρ : En) : keysS a ρ = (a ρ).b fun x => lift (dKeys x) := nrfl rfl
@[simp] theorem at_cal (g : List D → OutF) (a : M (List D)) (ρ : En) : cal g a ρ = (a ρ).b fun ds ρ1 => (rF (g ds)).k ρ1 fun d => .ok d ρ1 := by
  unfold cal bnd; cases a ρ with
  | ok x ρ1 => dsimp only [Out.b]; cases g x <;> rfl
  | err x ρ1 => rfl
  | bad => rfl
@[simp] theorem at_calK (g : List D → OutF) (n m : Nat) (ix : List Nat) (a kw : M (List D)) (ρ : En) : calK g n m ix a kw ρ = (a ρ).b fun ds ρ1 => (kw ρ1).b fun es ρ2 => if ds.length = n ∧ es.length = m then (rF (g (pick ix (ds ++ es)))).k ρ2 fun d => .ok d ρ2 else .bad := by
  unfold calK; rw [at_bnd]; congr 1; funext x ρ1; rw [at_bnd]; congr 1; funext y ρ2
  split
  · cases g (pick ix (x ++ y)) <;> rfl
  · rfl
@[simp] theorem at_metM (cl m : String) (g : List D → OutF) (o : M D) (a : M (List D)) (ρ : En) : metM cl m g o a ρ = (o ρ).b fun x ρ1 => if okIns cl m x then (a ρ1).b fun ds ρ2 => (rF (g (x :: ds))).k ρ2 fun d => .ok d ρ2 else .bad := by
  unfold metM; rw [at_bnd]; congr 1; funext x ρ1
  split
  · rw [at_bnd]; congr 1; funext y ρ2; cases g (x :: y) <;> rfl
  · rfl
/-- what a property gives -/
def rP : OutF → R D
  | .ok d _ => .ok d
  | _ => .bad
@[simp] theorem rP_ok (d : D) (es : List D) : rP (.ok d es) = .ok d := nrfl rfl
@[simp] theorem at_proM (cl : String) (g : List D → OutF) (o : M D) (ρ : En) : proM cl g o ρ = (o ρ).b fun x ρ1 => if isIns cl x then (rP (g [x])).k ρ1 fun d => .ok d ρ1 else .bad := by
  unfold proM; rw [at_bnd]; congr 1; funext x ρ1
  split
  · cases g [x] <;> rfl
  · rfl
def rI : OutF → R Bool
  | .ok (.bl b) _ => .ok b
  | _ => .bad
@[simp] theorem rI_ok (b : Bool) (es : List D) : rI (.ok (.bl b) es) = .ok b := nrfl rfl
@[simp] theorem at_inI (cl : String) (g : List D → OutF) (neg : Bool) (a b : M D) (ρ : En) : inI cl g neg a b ρ = (a ρ).b fun x ρ1 => (b ρ1).b fun y ρ2 => if isIns cl y then (rI (g [y, x])).k ρ2 fun b => .ok (.bl (if neg then !b else b)) ρ2 else .bad := by
  unfold inI; rw [at_bnd]; congr 1; funext x ρ1; rw [at_bnd]; congr 1; funext y ρ2
  split
  · cases g [y, x] with
    | ok d es => cases d <;> rfl
    | _ => rfl
  · rfl
def rM (cl : String) : OutF → R D
  | .ok .non [.ins c fs] => if c = cl then .ok (.ins cl fs) else .bad
  | .err x _ => .err x
  | _ => .bad
@[simp] theorem rM_ok (cl : String) (fs : List (String × D)) : rM cl (.ok .non [.ins cl fs]) = .ok (.ins cl fs) := by simp [rM]
@[simp] theorem rM_err (cl : String) (x : Xc) (es : List D) : rM cl (.err x es) = .err x := nrfl rfl
@[simp] theorem at_mkM (cl : String) (g : List D → OutF) (n m : Nat) (ix : List Nat) (a kw : M (List D)) (ρ : En) : mkM cl g n m ix a kw ρ = (a ρ).b fun ds ρ1 => (kw ρ1).b fun es ρ2 => if ds.length = n ∧ es.length = m ∧ ix.head? = some 0 ∧ ix.tail.contains 0 = false then (rM cl (g (pick ix ((.ins cl [] :: ds) ++ es)))).k ρ2 fun d => .ok d ρ2 else .bad := by
  unfold mkM; rw [at_bnd]; congr 1; funext x ρ1; rw [at_bnd]; congr 1; funext y ρ2
  split
  · generalize g (pick ix ((.ins cl [] :: x) ++ y)) = o
    unfold rM
    split
    · split <;> rename_i h <;> simp [h]
    · rfl
    · first
      | rfl
      | (split <;> simp_all)
  · rfl
/-! own things -/
def owR : Option Sl → R D
  | some (.ow d) => .ok d
  | _ => .bad
@[simp] theorem owR_ow (d : D) : owR (some (.ow d)) = .ok d := nrfl rfl
def rR : OutF → R (D × D) := fun o => match o with
  | .ok d [e] => .ok (d, e)
  | _ => .bad
@[simp] theorem rR_ok (d e : D) : rR (.ok d [e]) = .ok (d, e) := nrfl rfl
def lstR : Option Sl → R (List D)
  | some (.ow (.lst ds)) => .ok ds
  | _ => .bad
@[simp] theorem lstR_ow (ds : List D) : lstR (some (.ow (.lst ds))) = .ok ds := nrfl rfl
@[simp] theorem at_lenO (i : Nat) (ρ : En) : lenO i ρ = (lstR ρ[i]?).k ρ fun ds => .ok (.int ds.length) ρ := by
  unfold lenO lstR
  generalize ρ[i]? = o
  cases o with
  | none => rfl
  | some s => cases s with
    | ow d => cases d <;> rfl
    | _ => rfl
@[simp] theorem at_fzV (m : M D) (ρ : En) : fzV m ρ = (m ρ).b fun d ρ1 => .ok (.fz d) ρ1 := nrfl rfl
@[simp] theorem at_owL (a : M (List D)) (ρ : En) : owL a ρ = (a ρ).b fun ds ρ1 => if ds.length ≤ sz then .ok (.ow (.lst ds)) ρ1 else .bad := by
  unfold owL bnd; cases a ρ with
  | ok x ρ1 => dsimp only [Out.b]; split <;> rfl
  | err x ρ1 => rfl
  | bad => rfl
@[simp] theorem at_owSeq (a : M D) (ρ : En) : owSeq a ρ = (a ρ).b fun d ρ1 => (R.of (dSeq d)).k ρ1 fun ds => .ok (.ow (.lst ds)) ρ1 := by
  unfold owSeq bnd; cases a ρ with
  | ok x ρ1 => dsimp only [Out.b]; cases dSeq x <;> rfl
  | err x ρ1 => rfl
  | bad => rfl
def putSO (np : Nat) (q : Option Sl) (ρ : En) (i : Nat) (s : Sl) : Option En := match q with
  | none => none
  | some (.ow _) => if np ≤ i then some (ρ.set i s) else none
  | some _ => some (ρ.set i s)
@[simp] theorem putSO_un (np : Nat) (ρ : En) (i : Nat) (s : Sl) : putSO np (some .un) ρ i s = some (ρ.set i s) := nrfl rfl
@[simp] theorem putSO_fz (np : Nat) (d : D) (ρ : En) (i : Nat) (s : Sl) : putSO np (some (.fz d)) ρ i s = some (ρ.set i s) := nrfl rfl
@[simp] theorem putSO_ow (np : Nat) (d : D) (ρ : En) (i : Nat) (s : Sl) : putSO np (some (.ow d)) ρ i s = if np ≤ i then some (ρ.set i s) else none := nrfl rfl
@[simp] theorem at_putS (np i : Nat) (s : Sl) (ρ : En) : putS np i s ρ = putSO np ρ[i]? ρ i s := by
  unfold putS putSO
  generalize ρ[i]? = o
  cases o with
  | none => rfl
  | some s => cases s <;> rfl
@[simp] theorem at_asgV (np i : Nat) (e : M Sl) (ρ : En) : asgV np i e ρ = (e ρ).b fun s ρ1 => asgO (putS np i s ρ1) := by
  unfold asgV bnd asgO; cases e ρ <;> rfl
@[simp] theorem at_parV (np i j : Nat) (a b : M Sl) (ρ : En) : parV np i j a b ρ = (a ρ).b fun s ρ1 => (b ρ1).b fun t ρ2 => asgO ((putS np i s ρ2).bind (putS np j t)) := by
  unfold parV bnd asgO; cases a ρ with
  | ok s ρ1 => dsimp only [Out.b]; cases b ρ1 with
    | ok t ρ2 =>
      dsimp only; cases putS np i s ρ2 with
      | none => rfl
      | some ρ3 => rfl
    | err x ρ1 => rfl
    | bad => rfl
  | err x ρ1 => rfl
  | bad => rfl
@[simp] theorem at_wipM (ws : List Nat) (m : M Fl) (ρ : En) : wipM ws m ρ = (m ρ).b fun f ρ1 => .ok f (wipeA ws ρ1) := by
  unfold wipM; cases m ρ <;> rfl
end
end DL

namespace DL
open PySem L2
/-! ### readings that leave the frame -/
class Pu {α : Type} (m : M α) : Prop where
  pu : ∀ ρ, (∃ a, m ρ = .ok a ρ) ∨ (∃ x, m ρ = .err x ρ) ∨ m ρ = .bad
section
variable {α β : Type}
theorem pu_b {o : Out α} {f : α → M β} {ρ : En} (ho : (∃ a, o = .ok a ρ) ∨ (∃ x, o = .err x ρ) ∨ o = .bad) (hf : ∀ a, (∃ b, f a ρ = .ok b ρ) ∨ (∃ x, f a ρ = .err x ρ) ∨ f a ρ = .bad) : (∃ b, o.b f = .ok b ρ) ∨ (∃ x, o.b f = .err x ρ) ∨ o.b f = .bad := by
  rcases ho with ⟨a, rfl⟩ | ⟨x, rfl⟩ | rfl
  · exact hf a
  · exact .inr (.inl ⟨x, rfl⟩)
  · exact .inr (.inr rfl)
theorem pu_k {r : R α} {f : α → Out β} {ρ : En} (hf : ∀ a, (∃ b, f a = .ok b ρ) ∨ (∃ x, f a = .err x ρ) ∨ f a = .bad) : (∃ b, r.k ρ f = .ok b ρ) ∨ (∃ x, r.k ρ f = .err x ρ) ∨ r.k ρ f = .bad := by
  cases r with
  | ok a => exact hf a
  | err x => exact .inr (.inl ⟨x, rfl⟩)
  | bad => exact .inr (.inr rfl)
theorem pu_if {p : Prop} [Decidable p] {x y : Out α} {ρ : En} (hx : (∃ b, x = .ok b ρ) ∨ (∃ e, x = .err e ρ) ∨ x = .bad) (hy : (∃ b, y = .ok b ρ) ∨ (∃ e, y = .err e ρ) ∨ y = .bad) : (∃ b, (if p then x else y) = .ok b ρ) ∨ (∃ e, (if p then x else y) = .err e ρ) ∨ (if p then x else y) = .bad := by
  split <;> assumption
theorem pu_ok (a : α) (ρ : En) : (∃ b, (Out.ok a ρ) = .ok b ρ) ∨ (∃ x, (Out.ok a ρ) = .err x ρ) ∨ (Out.ok a ρ) = .bad := .inl ⟨a, rfl⟩
theorem pu_bad (ρ : En) : (∃ b, (Out.bad : Out α) = .ok b ρ) ∨ (∃ x, (Out.bad : Out α) = .err x ρ) ∨ (Out.bad : Out α) = .bad := .inr (.inr rfl)
instance (a : α) : Pu (DL.ret a) := ⟨fun ρ => pu_ok a ρ⟩
instance (o : Option α) : Pu (lift o) := ⟨fun ρ => by rw [at_lift]; exact pu_k fun a => pu_ok a ρ⟩
theorem pu_lift (o : Option α) (ρ : En) : (∃ b, lift o ρ = .ok b ρ) ∨ (∃ x, lift o ρ = .err x ρ) ∨ lift o ρ = .bad := by rw [at_lift]; exact pu_k fun a => pu_ok a ρ
instance (i : Nat) : Pu (v i) := ⟨fun ρ => by rw [at_v]; exact pu_k fun a => pu_ok a ρ⟩
instance (d : D) : Pu (cn d) := ⟨fun ρ => pu_ok d ρ⟩
instance : Pu args0 := ⟨fun ρ => pu_ok _ ρ⟩
instance (r : D → Option D) (a : M D) [h : Pu a] : Pu (op1 r a) := ⟨fun ρ => pu_b (h.pu ρ) fun x => pu_lift _ ρ⟩
instance (r : D → D → Option D) (a b : M D) [h : Pu a] [k : Pu b] : Pu (op2 r a b) := ⟨fun ρ => pu_b (h.pu ρ) fun x => pu_b (k.pu ρ) fun y => pu_lift _ ρ⟩
instance (a : M D) (b : M (List D)) [h : Pu a] [k : Pu b] : Pu (argc a b) := ⟨fun ρ => pu_b (h.pu ρ) fun x => pu_b (k.pu ρ) fun y => pu_ok _ ρ⟩
instance (r : List D → Option D) (a : M (List D)) [h : Pu a] : Pu (opL r a) := ⟨fun ρ => pu_b (h.pu ρ) fun x => pu_lift _ ρ⟩
instance (T : D → Bool) (r : D → List D → Option D) (o : M D) (a : M (List D)) [h : Pu o] [k : Pu a] : Pu (opMt T r o a) := ⟨fun ρ => by rw [at_opMt]; exact pu_b (h.pu ρ) fun x => pu_if (pu_b (k.pu ρ) fun y => pu_lift _ ρ) (pu_bad ρ)⟩
instance (a : M D) [h : Pu a] : Pu (tbM a) := ⟨fun ρ => pu_b (h.pu ρ) fun x => pu_lift _ ρ⟩
instance (a : M D) [h : Pu a] : Pu (trM a) := ⟨fun ρ => pu_b (h.pu ρ) fun x => pu_lift _ ρ⟩
instance (a : M Bool) [h : Pu a] : Pu (notT a) := ⟨fun ρ => pu_b (h.pu ρ) fun x => pu_ok _ ρ⟩
instance (a b : M Bool) [h : Pu a] [k : Pu b] : Pu (andT a b) := ⟨fun ρ => by rw [at_andT]; exact pu_b (h.pu ρ) fun x => pu_if (k.pu ρ) (pu_ok _ ρ)⟩
instance (a b : M Bool) [h : Pu a] [k : Pu b] : Pu (orT a b) := ⟨fun ρ => by rw [at_orT]; exact pu_b (h.pu ρ) fun x => pu_if (pu_ok _ ρ) (k.pu ρ)⟩
instance (t : M Bool) (a b : M D) [h : Pu t] [k : Pu a] [l : Pu b] : Pu (ifE t a b) := ⟨fun ρ => by rw [at_ifE]; exact pu_b (h.pu ρ) fun x => pu_if (k.pu ρ) (l.pu ρ)⟩
instance (a b : M D) [h : Pu a] [k : Pu b] : Pu (andV a b) := ⟨fun ρ => by rw [at_andV]; exact pu_b (h.pu ρ) fun x => pu_k fun t => pu_if (k.pu ρ) (pu_ok _ ρ)⟩
instance (a b : M D) [h : Pu a] [k : Pu b] : Pu (orV a b) := ⟨fun ρ => by rw [at_orV]; exact pu_b (h.pu ρ) fun x => pu_k fun t => pu_if (pu_ok _ ρ) (k.pu ρ)⟩
instance (a : M D) [h : Pu a] : Pu (notV a) := ⟨fun ρ => by rw [at_notV]; exact pu_b (h.pu ρ) fun x => pu_k fun t => pu_ok _ ρ⟩
instance (r r' : D → D → Option D) (a b e : M D) [h : Pu a] [k : Pu b] [l : Pu e] : Pu (chM r r' a b e) := ⟨fun ρ => by rw [at_chM]; exact pu_b (h.pu ρ) fun x => pu_b (k.pu ρ) fun y => pu_k fun t => pu_if (pu_b (l.pu ρ) fun w => pu_lift _ ρ) (pu_ok _ ρ)⟩
instance (m : M D) [h : Pu m] : Pu (opt m) := ⟨fun ρ => by rw [at_opt]; exact pu_b (h.pu ρ) fun x => pu_k fun t => pu_ok _ ρ⟩
instance (a : M D) (lo hi : M (Option Int)) [h : Pu a] [k : Pu lo] [l : Pu hi] : Pu (slM a lo hi) := ⟨fun ρ => pu_b (h.pu ρ) fun x => pu_b (k.pu ρ) fun y => pu_b (l.pu ρ) fun w => pu_lift _ ρ⟩
instance (a : M D) [h : Pu a] : Pu (seqS a) := ⟨fun ρ => pu_b (h.pu ρ) fun x => pu_lift _ ρ⟩
instance (r : List D → Option (List D)) (a : M (List D)) [h : Pu a] : Pu (srcL r a) := ⟨fun ρ => pu_b (h.pu ρ) fun x => pu_lift _ ρ⟩
instance (a : M D) [h : Pu a] : Pu (keysS a) := ⟨fun ρ => pu_b (h.pu ρ) fun x => pu_lift _ ρ⟩
instance (g : List D → OutF) (a : M (List D)) [h : Pu a] : Pu (cal g a) := ⟨fun ρ => by rw [at_cal]; exact pu_b (h.pu ρ) fun x => pu_k fun d => pu_ok _ ρ⟩
instance (g : List D → OutF) (n m : Nat) (ix : List Nat) (a kw : M (List D)) [h : Pu a] [k : Pu kw] : Pu (calK g n m ix a kw) := ⟨fun ρ => by rw [at_calK]; exact pu_b (h.pu ρ) fun x => pu_b (k.pu ρ) fun y => pu_if (pu_k fun d => pu_ok _ ρ) (pu_bad ρ)⟩
instance (cl m : String) (g : List D → OutF) (o : M D) (a : M (List D)) [h : Pu o] [k : Pu a] : Pu (metM cl m g o a) := ⟨fun ρ => by rw [at_metM]; exact pu_b (h.pu ρ) fun x => pu_if (pu_b (k.pu ρ) fun y => pu_k fun d => pu_ok _ ρ) (pu_bad ρ)⟩
instance (cl : String) (g : List D → OutF) (o : M D) [h : Pu o] : Pu (proM cl g o) := ⟨fun ρ => by rw [at_proM]; exact pu_b (h.pu ρ) fun x => pu_if (pu_k fun d => pu_ok _ ρ) (pu_bad ρ)⟩
instance (cl : String) (g : List D → OutF) (neg : Bool) (a b : M D) [h : Pu a] [k : Pu b] : Pu (inI cl g neg a b) := ⟨fun ρ => by rw [at_inI]; exact pu_b (h.pu ρ) fun x => pu_b (k.pu ρ) fun y => pu_if (pu_k fun d => pu_ok _ ρ) (pu_bad ρ)⟩
instance (cl : String) (g : List D → OutF) (n m : Nat) (ix : List Nat) (a kw : M (List D)) [h : Pu a] [k : Pu kw] : Pu (mkM cl g n m ix a kw) := ⟨fun ρ => by rw [at_mkM]; exact pu_b (h.pu ρ) fun x => pu_b (k.pu ρ) fun y => pu_if (pu_k fun d => pu_ok _ ρ) (pu_bad ρ)⟩
instance (i : Nat) : Pu (lenO i) := ⟨fun ρ => by rw [at_lenO]; exact pu_k fun d => pu_ok _ ρ⟩
end
/-! ### targets that can be wiped -/
class PuT (vs : List Nat) (t : Tg) : Prop where
  pu : ∀ d ρ ρ1, noOw ρ vs = true → t d ρ = some ρ1 → noOw ρ1 vs = true ∧ wipeE ρ1 vs = wipeE ρ vs
theorem put_some {i : Nat} {d : D} {ρ ρ1 : En} (h : put i d ρ = some ρ1) : i < ρ.length ∧ ρ1 = ρ.set i (.fz d) := by
  unfold put at h
  cases e : ρ[i]? with
  | none => rw [e] at h; cases h
  | some s =>
    have hl : i < ρ.length := (List.getElem?_eq_some_iff.mp e).1
    rw [e] at h
    cases s with
    | ow _ => cases h
    | un => cases h; exact ⟨hl, rfl⟩
    | xc _ => cases h; exact ⟨hl, rfl⟩
    | fz _ => cases h; exact ⟨hl, rfl⟩
theorem noOw_set {ρ : En} {i : Nat} {d : D} : ∀ {vs : List Nat}, noOw ρ vs = true → noOw (ρ.set i (.fz d)) vs = true
  | [], _ => rfl
  | j :: vs, h => by
    have h1 : noOw ρ vs = true := by unfold noOw at h ⊢; simp only [List.all_cons, Bool.and_eq_true] at h; exact h.2
    have h2 := noOw_set (i := i) (d := d) h1
    unfold noOw at h h2 ⊢
    simp only [List.all_cons, Bool.and_eq_true] at h ⊢
    refine ⟨?_, h2⟩
    by_cases e : i = j
    · subst e
      by_cases hl : i < ρ.length
      · rw [List.getElem?_set_self hl]
      · rw [List.getElem?_eq_none (by rw [List.length_set]; omega)]
    · rw [List.getElem?_set_ne e]; exact h.1
theorem wipeE_ext {ρ ρ' : En} {vs : List Nat} (hl : ρ.length = ρ'.length) (h : ∀ i, i ∉ vs → ρ[i]? = ρ'[i]?) : wipeE ρ vs = wipeE ρ' vs := by
  apply List.ext_getElem?
  intro i
  by_cases hi : i ∈ vs
  · have len : (wipeE ρ vs).length = (wipeE ρ' vs).length := by rw [wipeE_length, wipeE_length, hl]
    rcases wipeE_in (ρ := ρ) hi with q | q
    · have : (wipeE ρ vs).length ≤ i := List.getElem?_eq_none_iff.mp q
      rw [q, List.getElem?_eq_none (by omega)]
    · have : i < (wipeE ρ vs).length := (List.getElem?_eq_some_iff.mp q).1
      rcases wipeE_in (ρ := ρ') hi with q' | q'
      · have : (wipeE ρ' vs).length ≤ i := List.getElem?_eq_none_iff.mp q'
        omega
      · rw [q, q']
  · rw [wipeE_out hi, wipeE_out hi, h i hi]
theorem wipe_set {ρ : En} {i : Nat} {s : Sl} {vs : List Nat} (hi : i ∈ vs) : wipeE (ρ.set i s) vs = wipeE ρ vs :=
  wipeE_ext (by rw [List.length_set]) fun j hj => by rw [List.getElem?_set_ne fun e => hj (by rw [← e]; exact hi)]
instance (i : Nat) : PuT [i] (put i) := ⟨fun d ρ ρ1 h e => by
  obtain ⟨hl, rfl⟩ := put_some e
  exact ⟨noOw_set h, wipe_set List.mem_cons_self⟩⟩
theorem tgT_some {n : Nat} {t : List D → En → Option En} {d : D} {ρ ρ1 : En} (h : tgT n t d ρ = some ρ1) : ∃ ds, d = .tup ds ∧ t ds ρ = some ρ1 := by
  unfold tgT at h
  split at h
  · rename_i ds
    split at h
    · exact ⟨ds, rfl, h⟩
    · cases h
  · cases h
theorem tgC_some {t : Tg} {u : List D → En → Option En} {ds : List D} {ρ ρ1 : En} (h : tgC t u ds ρ = some ρ1) : ∃ d r ρ2, ds = d :: r ∧ t d ρ = some ρ2 ∧ u r ρ2 = some ρ1 := by
  unfold tgC at h
  split at h
  · rename_i d r
    cases e : t d ρ with
    | none => rw [e] at h; cases h
    | some ρ2 => rw [e] at h; exact ⟨d, r, ρ2, rfl, e, h⟩
  · cases h
theorem tgN_some {ds : List D} {ρ ρ1 : En} (h : tgN ds ρ = some ρ1) : ρ1 = ρ := by
  unfold tgN at h
  split at h
  · cases h; rfl
  · cases h
instance (i j : Nat) : PuT [i, j] (tgT 2 (tgC (put i) (tgC (put j) tgN))) := ⟨fun d ρ ρ1 h e => by
  obtain ⟨ds, rfl, e0⟩ := tgT_some e
  obtain ⟨d1, r, ρ2, rfl, e1, e9⟩ := tgC_some e0
  obtain ⟨d2, r2, ρ3, rfl, e2, e8⟩ := tgC_some e9
  obtain rfl := tgN_some e8
  obtain ⟨_, rfl⟩ := put_some e1
  obtain ⟨_, rfl⟩ := put_some e2
  exact ⟨noOw_set (noOw_set h), by rw [wipe_set (by simp), wipe_set (by simp)]⟩⟩
instance (i j k : Nat) : PuT [i, j, k] (tgT 3 (tgC (put i) (tgC (put j) (tgC (put k) tgN)))) := ⟨fun d ρ ρ1 h e => by
  obtain ⟨ds, rfl, e0⟩ := tgT_some e
  obtain ⟨d1, r, ρ2, rfl, e1, e9⟩ := tgC_some e0
  obtain ⟨d2, r2, ρ3, rfl, e2, e8⟩ := tgC_some e9
  obtain ⟨d3, r3, ρ4, rfl, e3, e7⟩ := tgC_some e8
  obtain rfl := tgN_some e7
  obtain ⟨_, rfl⟩ := put_some e1
  obtain ⟨_, rfl⟩ := put_some e2
  obtain ⟨_, rfl⟩ := put_some e3
  exact ⟨noOw_set (noOw_set (noOw_set h)), by rw [wipe_set (by simp), wipe_set (by simp), wipe_set (by simp)]⟩⟩
/-! ### comprehensions that leave the frame -/
def lcx {τ : Type} (t : τ → R Bool) (e : τ → R D) : List τ → R (List D)
  | [] => .ok []
  | x :: r => match t x with
    | .ok true => (match e x with
      | .ok y => (match lcx t e r with
        | .ok ys => .ok (y :: ys)
        | _ => .bad)
      | _ => .bad)
    | .ok false => lcx t e r
    | _ => .bad
theorem lcx_fine {τ : Type} {t : τ → R Bool} {e : τ → R D} : ∀ xs : List τ, (∃ ys, lcx t e xs = .ok ys) ∨ lcx t e xs = .bad
  | [] => .inl ⟨[], rfl⟩
  | x :: r => by
    unfold lcx
    rcases lcx_fine (t := t) (e := e) r with ⟨ys, h⟩ | h
    · rw [h]
      split
      · split
        · exact .inl ⟨_, rfl⟩
        · exact .inr rfl
      · exact .inl ⟨_, rfl⟩
      · exact .inr rfl
    · rw [h]
      split
      · split <;> exact .inr rfl
      · exact .inr rfl
      · exact .inr rfl
def onT {α : Type} (o : Option En) (f : En → R α) : R α := match o with
  | some ρ => f ρ
  | none => .bad
@[simp] theorem onT_some {α : Type} (ρ : En) (f : En → R α) : onT (some ρ) f = f ρ := nrfl rfl
@[simp] theorem onT_none {α : Type} (f : En → R α) : onT none f = .bad := nrfl rfl
@[simp] theorem wipeE_nil (ρ : En) : wipeE ρ [] = ρ := nrfl rfl
@[simp] theorem wipeE_cons (ρ : En) (i : Nat) (vs : List Nat) : wipeE ρ (i :: vs) = (wipeE ρ vs).set i .un := nrfl rfl
@[simp] theorem wipeA_nil (ρ : En) : wipeA [] ρ = ρ := nrfl rfl
@[simp] theorem wipeA_cons (ρ : En) (i : Nat) (vs : List Nat) : wipeA (i :: vs) ρ = (wipeA vs ρ).set i .un := nrfl rfl
def nw : Option Sl → Bool
  | some (.ow _) => false
  | _ => true
@[simp] theorem nw_ow (d : D) : nw (some (.ow d)) = false := nrfl rfl
@[simp] theorem nw_un : nw (some .un) = true := nrfl rfl
@[simp] theorem nw_fz (d : D) : nw (some (.fz d)) = true := nrfl rfl
@[simp] theorem noOw_nil (ρ : En) : noOw ρ [] = true := nrfl rfl
@[simp] theorem noOw_cons (ρ : En) (i : Nat) (vs : List Nat) : noOw ρ (i :: vs) = (nw ρ[i]? && noOw ρ vs) := by
  first
  | rfl
  | (unfold noOw nw; simp only [List.all_cons]; congr 1)
theorem lcL_eq' {vs : List Nat} {t : Tg} {mt : M Bool} {me : M D} [ht : PuT vs t] [hm : Pu mt] [he : Pu me] {ρ : En} (hn : noOw ρ vs = true) (hw : wipeE ρ vs = ρ) {T : D → R Bool} {E : D → R D} (hT : ∀ d, T d = onT (t d ρ) fun ρ1 => (mt ρ1).toR) (hE : ∀ d, E d = onT (t d ρ) fun ρ1 => (me ρ1).toR) : ∀ (ds acc : List D), lcL vs t mt me ds acc ρ = (lcx T E ds).k ρ fun ys => .ok (acc ++ ys) ρ
  | [], acc => by simp [lcL, lcx, DL.ret]
  | d :: r, acc => by
    unfold lcL lcx
    rw [hT d, hE d]
    cases e : t d ρ with
    | none => rfl
    | some ρ1 =>
      obtain ⟨n1, w1⟩ := ht.pu d ρ ρ1 hn e
      rw [hw] at w1
      rw [onT_some, onT_some]
      dsimp only
      rcases hm.pu ρ1 with ⟨b, q⟩ | ⟨x, q⟩ | q
      · rw [q, Out.toR_ok]
        cases b with
        | false => simp only [n1, if_true, w1]; exact lcL_eq' hn hw hT hE r acc
        | true =>
          dsimp only
          rcases he.pu ρ1 with ⟨y, q2⟩ | ⟨x, q2⟩ | q2
          · rw [q2, Out.toR_ok]
            simp only [n1, if_true, w1]
            rw [lcL_eq' hn hw hT hE r (acc ++ [y])]
            rcases lcx_fine (t := T) (e := E) r with ⟨ys, h⟩ | h
            · rw [h]; simp
            · rw [h]; rfl
          · rw [q2]; rfl
          · rw [q2]; rfl
      · rw [q]; rfl
      · rw [q]; rfl
theorem lcL_eq {vs : List Nat} {t : Tg} {mt : M Bool} {me : M D} [ht : PuT vs t] [hm : Pu mt] [he : Pu me] {ρ : En} (hn : noOw ρ vs = true) (hw : wipeE ρ vs = ρ) (ds acc : List D) : lcL vs t mt me ds acc ρ = (lcx (fun d => onT (t d ρ) fun ρ1 => (mt ρ1).toR) (fun d => onT (t d ρ) fun ρ1 => (me ρ1).toR) ds).k ρ fun ys => .ok (acc ++ ys) ρ := lcL_eq' hn hw (fun _ => rfl) (fun _ => rfl) ds acc
theorem back_wipe {ρ : En} {vs : List Nat} : back ρ (wipeE ρ vs) vs = ρ := by
  apply List.ext_getElem?
  intro i
  by_cases hi : i ∈ vs
  · rw [back_in (by rw [wipeE_length]) hi]
  · rw [back_out hi, wipeE_out hi]
theorem wipe_wipe {ρ : En} {vs : List Nat} : wipeE (wipeE ρ vs) vs = wipeE ρ vs := wipeE_ext (wipeE_length ..) fun i hi => wipeE_out hi
theorem noOw_wipe {ρ : En} {vs : List Nat} : noOw (wipeE ρ vs) vs = true := by
  unfold noOw
  rw [List.all_eq_true]
  intro i hi
  rcases wipeE_in (ρ := ρ) hi with q | q <;> rw [q]
@[simp] theorem at_lcM (src : M (List D)) (vs : List Nat) (t : Tg) (mt : M Bool) (me : M D) [ht : PuT vs t] [hm : Pu mt] [he : Pu me] (ρ : En) : lcM src vs t mt me ρ = (src ρ).b fun ds ρ1 => if noOw ρ1 vs = true then (lcx (fun d => onT (t d (wipeE ρ1 vs)) fun ρ2 => (mt ρ2).toR) (fun d => onT (t d (wipeE ρ1 vs)) fun ρ2 => (me ρ2).toR) ds).k ρ1 fun ys => .ok (.lst ys) ρ1 else .bad := by
  unfold lcM bnd
  cases src ρ with
  | err x ρ1 => rfl
  | bad => rfl
  | ok ds ρ1 =>
    dsimp only [Out.b]
    split
    · rw [lcL_eq noOw_wipe wipe_wipe ds []]
      rcases lcx_fine (t := fun d => onT (t d (wipeE ρ1 vs)) fun ρ1 => (mt ρ1).toR) (e := fun d => onT (t d (wipeE ρ1 vs)) fun ρ1 => (me ρ1).toR) ds with ⟨ys, h⟩ | h
      · rw [h]; simp [back_wipe]
      · rw [h]; rfl
    · rfl
instance (src : M (List D)) (vs : List Nat) (t : Tg) (mt : M Bool) (me : M D) [hs : Pu src] [ht : PuT vs t] [hm : Pu mt] [he : Pu me] : Pu (lcM src vs t mt me) := ⟨fun ρ => by rw [at_lcM]; exact pu_b (hs.pu ρ) fun x => pu_if (pu_k fun d => pu_ok _ ρ) (pu_bad ρ)⟩
/-! what they give -/
@[simp] theorem lcx_map {τ υ : Type} (g : υ → τ) (t : τ → R Bool) (e : τ → R D) : ∀ xs : List υ, lcx t e (xs.map g) = lcx (fun x => t (g x)) (fun x => e (g x)) xs
  | [] => rfl
  | x :: r => by
    simp only [List.map_cons]
    unfold lcx
    rw [lcx_map g t e r]
@[simp] theorem lcx_ok {τ : Type} (t : τ → Bool) (e : τ → D) : ∀ xs : List τ, lcx (fun x => .ok (t x)) (fun x => .ok (e x)) xs = .ok ((xs.filter t).map e)
  | [] => rfl
  | x :: r => by
    unfold lcx
    rw [lcx_ok t e r]
    cases h : t x <;> simp [h]
@[simp] theorem lcx_true {τ : Type} (e : τ → D) (xs : List τ) : lcx (fun _ => .ok true) (fun x => .ok (e x)) xs = .ok (xs.map e) := by
  rw [lcx_ok (fun _ => true) e xs, List.filter_eq_self.mpr fun _ _ => rfl]
/-! ### for loops -/
def turn (t : Tg) (body : M Fl) (d : D) (ρ : En) : Out Fl := match t d ρ with
  | none => .bad
  | some ρ1 => body ρ1
def onS (o : Option En) (m : M Fl) : Out Fl := match o with
  | some ρ => m ρ
  | none => .bad
@[simp] theorem onS_some (ρ : En) (m : M Fl) : onS (some ρ) m = m ρ := nrfl rfl
@[simp] theorem onS_none (m : M Fl) : onS none m = .bad := nrfl rfl
@[simp] theorem at_turn (t : Tg) (body : M Fl) (d : D) (ρ : En) : turn t body d ρ = onS (t d ρ) body := by
  unfold turn onS; cases t d ρ <;> rfl
theorem forL_cons_nx {t : Tg} {body : M Fl} {d : D} {r : List D} {ρ ρ' : En} (h : turn t body d ρ = .ok .nx ρ') : forL t body (d :: r) ρ = forL t body r ρ' := by
  unfold turn at h
  cases e : t d ρ with
  | none => rw [e] at h; cases h
  | some ρ1 =>
    rw [e] at h
    dsimp only at h
    rw [show forL t body (d :: r) ρ = (match t d ρ with
    | none => .bad
    | some ρ' => match body ρ' with
      | .ok .nx ρ2 => forL t body r ρ2
      | .ok .ct ρ2 => forL t body r ρ2
      | .ok .bk ρ2 => .ok .nx ρ2
      | o => o) from rfl]
    simp only [e, h]
theorem forL_cons_rt {t : Tg} {body : M Fl} {d x : D} {r : List D} {ρ ρ' : En} (h : turn t body d ρ = .ok (.rt x) ρ') : forL t body (d :: r) ρ = .ok (.rt x) ρ' := by
  unfold turn at h
  cases e : t d ρ with
  | none => rw [e] at h; cases h
  | some ρ1 =>
    rw [e] at h
    dsimp only at h
    unfold forL
    simp only [e, h]
/-- a loop whose turns go on: a fold -/
theorem forL_fold {σ τ : Type} {t : Tg} {body : M Fl} (g : τ → D) (fr : σ → En) (st : σ → τ → σ) : ∀ (xs : List τ) (s0 : σ), (∀ (ys zs : List τ) (x : τ), xs = ys ++ x :: zs → turn t body (g x) (fr (ys.foldl st s0)) = .ok .nx (fr (st (ys.foldl st s0) x))) → forL t body (xs.map g) (fr s0) = .ok .nx (fr (xs.foldl st s0))
  | [], s0, _ => rfl
  | x :: r, s0, h => by
    have h0 := h [] r x rfl
    simp only [List.foldl_nil] at h0
    simp only [List.map_cons, List.foldl_cons]
    rw [forL_cons_nx h0]
    exact forL_fold g fr st r (st s0 x) fun ys zs y e => h (x :: ys) zs y (by rw [e]; rfl)
/-- a loop with a state that is not told -/
theorem forL_inv {σ : Type} {t : Tg} {body : M Fl} (fr : σ → En) (P : σ → Prop) : ∀ (ds : List D) (s0 : σ), P s0 → (∀ d ∈ ds, ∀ s, P s → ∃ s', turn t body d (fr s) = .ok .nx (fr s') ∧ P s') → ∃ s', forL t body ds (fr s0) = .ok .nx (fr s') ∧ P s'
  | [], s0, h0, _ => ⟨s0, rfl, h0⟩
  | d :: r, s0, h0, h => by
    obtain ⟨s1, h1, p1⟩ := h d List.mem_cons_self s0 h0
    obtain ⟨s2, h2, p2⟩ := forL_inv fr P r s1 p1 fun e he => h e (List.mem_cons_of_mem _ he)
    exact ⟨s2, by rw [forL_cons_nx h1]; exact h2, p2⟩
/-- the same, with the number of turns -/
theorem forL_inv' {σ τ : Type} {t : Tg} {body : M Fl} (g : τ → D) (fr : σ → En) (P : List τ → σ → Prop) : ∀ (xs ps : List τ) (s0 : σ), P ps s0 → (∀ (ys zs : List τ) (x : τ), xs = ys ++ x :: zs → ∀ s, P (ps ++ ys) s → ∃ s', turn t body (g x) (fr s) = .ok .nx (fr s') ∧ P (ps ++ ys ++ [x]) s') → ∃ s', forL t body (xs.map g) (fr s0) = .ok .nx (fr s') ∧ P (ps ++ xs) s'
  | [], ps, s0, h0, _ => ⟨s0, rfl, by rw [List.append_nil]; exact h0⟩
  | d :: r, ps, s0, h0, h => by
    obtain ⟨s1, h1, p1⟩ := h [] r d rfl s0 (by rw [List.append_nil]; exact h0)
    rw [List.append_nil] at p1
    obtain ⟨s2, h2, p2⟩ := forL_inv' g fr P r (ps ++ [d]) s1 p1 fun ys zs x e s hs => by
      have := h (d :: ys) zs x (by rw [e]; rfl) s (by simpa using hs)
      simpa using this
    exact ⟨s2, by rw [List.map_cons, forL_cons_nx h1]; exact h2, by simpa using p2⟩
/-- a loop that looks for something -/
theorem forL_find {τ : Type} {t : Tg} {body : M Fl} (g : τ → D) (ρ : En) (p : τ → Bool) (e : τ → D) (ρ' : τ → En) : ∀ (xs : List τ), (∀ x ∈ xs, turn t body (g x) ρ = if p x = true then .ok (.rt (e x)) (ρ' x) else .ok .nx ρ) → forL t body (xs.map g) ρ = match xs.find? p with
    | some x => .ok (.rt (e x)) (ρ' x)
    | none => .ok .nx ρ
  | [], _ => rfl
  | x :: r, h => by
    have h0 := h x List.mem_cons_self
    rw [List.map_cons]
    cases hp : p x with
    | true =>
      rw [hp, if_pos rfl] at h0
      rw [forL_cons_rt h0]
      simp [hp]
    | false =>
      rw [hp, if_neg Bool.false_ne_true] at h0
      rw [forL_cons_nx h0, forL_find g ρ p e ρ' r fun y hy => h y (List.mem_cons_of_mem _ hy)]
      simp [hp]
/-! ### calls -/
def finF (io : List Nat) : Out Fl → OutF
  | .ok (.rt d) ρ => (match ioAt io ρ with
    | some es => .ok d es
    | none => .bad)
  | .ok .nx ρ => (match ioAt io ρ with
    | some es => .ok .non es
    | none => .bad)
  | .ok (.ro d) ρ => (match ioAt io ρ with
    | some es => .oko d es
    | none => .bad)
  | .err x ρ => (match ioAt io ρ with
    | some es => .err x es
    | none => .bad)
  | _ => .bad
@[simp] theorem at_fnM (np n : Nat) (io : List Nat) (body : M Fl) (ds : List D) : fnM np n io body ds = if ds.length = np then finF io (body (entry io ds n)) else .bad := by
  unfold fnM finF
  split
  · rfl
  · rfl
@[simp] theorem fin0_rt (d : D) (ρ : En) : finF [] (.ok (.rt d) ρ) = .ok d [] := nrfl rfl
@[simp] theorem fin0_nx (ρ : En) : finF [] (.ok .nx ρ) = .ok .non [] := nrfl rfl
@[simp] theorem fin0_ro (d : D) (ρ : En) : finF [] (.ok (.ro d) ρ) = .oko d [] := nrfl rfl
@[simp] theorem fin0_err (x : Xc) (ρ : En) : finF [] (.err x ρ) = .err x [] := nrfl rfl
@[simp] theorem fin1_rt (d e : D) (ρ : En) : finF [0] (.ok (.rt d) (.ow e :: ρ)) = .ok d [e] := nrfl rfl
@[simp] theorem fin1_nx (e : D) (ρ : En) : finF [0] (.ok .nx (.ow e :: ρ)) = .ok .non [e] := nrfl rfl
@[simp] theorem fin_ite (io : List Nat) (p : Prop) [Decidable p] (x y : Out Fl) : finF io (if p then x else y) = if p then finF io x else finF io y := by split <;> rfl
end DL

namespace DL
open PySem L2
/-! ### a loop from a wiped frame -/
def preM (ws : List Nat) (m : M Fl) : M Fl := fun ρ => m (wipeA ws ρ)
theorem es_pre {c : Stat} {s : Stmt} {m : M Fl} (ws : List Nat) (hs : ES c s m) (hb : (ws.all fun i => Nat.ble c.np i) = true) : ES c s (preM ws m) := fun G X W p z => by
  have hw : ∀ i ∈ ws, c.np ≤ i := fun i hi => Nat.le_of_ble_eq_true (List.all_eq_true.mp hb i hi)
  refine ps_imp (hs G X W p z) fun Z σ H ⟨F, ρ, R, q⟩ => ⟨F, wipeA ws ρ, R.wipeA (fun i hi pr hpr e => ?_), q⟩
  have := p pr hpr
  have := hw i hi
  omega
@[simp] theorem at_preM (ws : List Nat) (m : M Fl) (ρ : En) : preM ws m ρ = m (wipeA ws ρ) := nrfl rfl
/-! ### own things at a frame -/
def owB : Option Sl → Bool
  | some (.ow _) => true
  | _ => false
@[simp] theorem owB_ow (d : D) : owB (some (.ow d)) = true := nrfl rfl
@[simp] theorem owB_un : owB (some .un) = false := nrfl rfl
@[simp] theorem owB_fz (d : D) : owB (some (.fz d)) = false := nrfl rfl
def owBL : Option Sl → Bool
  | some (.ow (.lst _)) => true
  | _ => false
@[simp] theorem owBL_ow (ds : List D) : owBL (some (.ow (.lst ds))) = true := nrfl rfl
@[simp] theorem at_isOw (i : Nat) (ρ : En) : isOw i ρ = owB ρ[i]? := by
  unfold isOw owB
  generalize ρ[i]? = o
  cases o with
  | none => rfl
  | some s => cases s <;> rfl
@[simp] theorem at_isOwL (i : Nat) (ρ : En) : isOwL i ρ = owBL ρ[i]? := by
  unfold isOwL owBL
  generalize ρ[i]? = o
  cases o with
  | none => rfl
  | some s => cases s with
    | ow d => cases d <;> rfl
    | _ => rfl
def calRO (o : OutF) (ρ : En) (i : Nat) : Out D := match o with
  | .ok d [e] => .ok d (ρ.set i (.ow e))
  | .err x [e] => .err x (ρ.set i (.ow e))
  | _ => .bad
@[simp] theorem calRO_ok (d e : D) (ρ : En) (i : Nat) : calRO (.ok d [e]) ρ i = .ok d (ρ.set i (.ow e)) := nrfl rfl
@[simp] theorem calRO_err (x : Xc) (e : D) (ρ : En) (i : Nat) : calRO (.err x [e]) ρ i = .err x (ρ.set i (.ow e)) := nrfl rfl
@[simp] theorem at_calR (g : List D → OutF) (i : Nat) (a : M (List D)) (ρ : En) : calR g i a ρ = if isOw i ρ then (a ρ).b fun ds ρ1 => (owR ρ1[i]?).k ρ1 fun j => calRO (g (j :: ds)) ρ1 i else .bad := by
  unfold calR own
  split
  · rw [at_bnd]; congr 1; funext ds ρ1
    unfold owR
    generalize ρ1[i]? = o
    cases o with
    | none => rfl
    | some s => cases s <;> rfl
  · rfl
def ixOO (q : Option Sl) (k : D) : R D := match q with
  | some (.ow (.lst ds)) => (match k with
    | .int n => R.of (atI ds n)
    | _ => .bad)
  | some (.ow (.dct kvs)) => (match asK k with
    | some k => R.of (lookK k kvs)
    | none => .bad)
  | _ => .bad
@[simp] theorem ixOO_lst (ds : List D) (n : Int) : ixOO (some (.ow (.lst ds))) (.int n) = R.of (atI ds n) := nrfl rfl
@[simp] theorem ixOO_dct (kvs : List (DK × D)) (k : D) : ixOO (some (.ow (.dct kvs))) k = R.of ((asK k).bind fun k => lookK k kvs) := by
  unfold ixOO; cases asK k <;> rfl
@[simp] theorem at_ixO (i : Nat) (a : M D) (ρ : En) : ixO i a ρ = if isOw i ρ then (a ρ).b fun k ρ1 => (ixOO ρ1[i]? k).k ρ1 fun d => .ok d ρ1 else .bad := by
  unfold ixO own
  split
  · rw [at_bnd]; congr 1; funext k ρ1
    generalize ρ1[i]? = o
    cases o with
    | none => rfl
    | some s => cases s with
      | ow d => cases d with
        | lst ds => cases k with
          | int n => dsimp only [ixOO]; cases atI ds n <;> rfl
          | _ => rfl
        | dct kvs => dsimp only [ixOO]; cases asK k with
          | none => rfl
          | some k => dsimp only; cases lookK k kvs <;> rfl
        | _ => rfl
      | _ => rfl
  · rfl
@[simp] theorem at_appO (i : Nat) (a : M D) (ρ : En) : appO i a ρ = if isOwL i ρ then (a ρ).b fun d ρ1 => (lstR ρ1[i]?).k ρ1 fun ds => if ds.length < sz then .ok .non (ρ1.set i (.ow (.lst (ds ++ [d])))) else .bad else .bad := by
  unfold appO ownL
  split
  · rw [at_bnd]; congr 1; funext d ρ1
    unfold lstR
    generalize ρ1[i]? = o
    cases o with
    | none => rfl
    | some s => cases s with
      | ow d => cases d <;> rfl
      | _ => rfl
  · rfl
def popR (ds : List D) (k : D) : R (D × List D) := match k with
  | .int n => if 0 ≤ n ∧ n < 2 ^ 62 then R.of ((ds[n.toNat]?).map fun d => (d, ds.eraseIdx n.toNat)) else .bad
  | _ => .bad
@[simp] theorem at_popO (i : Nat) (a : M D) (ρ : En) : popO i a ρ = if isOwL i ρ then (a ρ).b fun k ρ1 => (lstR ρ1[i]?).k ρ1 fun ds => (popR ds k).k ρ1 fun q => .ok q.1 (ρ1.set i (.ow (.lst q.2))) else .bad := by
  unfold popO ownL
  split
  · rw [at_bnd]; congr 1; funext k ρ1
    unfold lstR
    generalize ρ1[i]? = o
    cases o with
    | none => rfl
    | some s => cases s with
      | ow d => cases d with
        | lst ds => cases k with
          | int n =>
            dsimp only [popR, R.k]
            split
            · cases ds[n.toNat]? <;> rfl
            · rfl
          | _ => rfl
        | _ => cases k <;> rfl
      | _ => cases k <;> rfl
  · rfl
def stOO (q : Option Sl) (k d : D) : R D := match q with
  | some (.ow (.lst ds)) => (match k with
    | .int n => (match ixN ds.length n with
      | some j => .ok (.lst (ds.set j d))
      | none => .bad)
    | _ => .bad)
  | some (.ow (.dct kvs)) => (match asK k with
    | some k => if kvs.length < sz then .ok (.dct (putK' k d kvs)) else .bad
    | none => .bad)
  | _ => .bad
@[simp] theorem stOO_lst (ds : List D) (n : Int) (d : D) : stOO (some (.ow (.lst ds))) (.int n) d = (R.of (ixN ds.length n)).bind fun j => .ok (.lst (ds.set j d)) := by
  unfold stOO; dsimp only; cases ixN ds.length n <;> rfl
@[simp] theorem stOO_dct (kvs : List (DK × D)) (k d : D) : stOO (some (.ow (.dct kvs))) k d = (R.of (asK k)).bind fun k => if kvs.length < sz then .ok (.dct (putK' k d kvs)) else .bad := by
  unfold stOO; dsimp only; cases asK k <;> rfl
@[simp] theorem at_stO (i : Nat) (a k : M D) (ρ : En) : stO i a k ρ = if isOw i ρ then (a ρ).b fun d ρ1 => if isOw i ρ1 then (k ρ1).b fun k ρ2 => (stOO ρ2[i]? k d).k ρ2 fun e => .ok .nx (ρ2.set i (.ow e)) else .bad else .bad := by
  unfold stO own
  split
  · rw [at_bnd]; congr 1; funext d ρ1
    split
    · rw [at_bnd]; congr 1; funext k ρ1
      generalize ρ1[i]? = o
      cases o with
      | none => rfl
      | some s => cases s with
        | ow e => cases e with
          | lst ds => cases k with
            | int n => dsimp only [stOO]; cases ixN ds.length n <;> rfl
            | _ => rfl
          | dct kvs => dsimp only [stOO]; cases asK k with
            | none => rfl
            | some k => dsimp only; split <;> rfl
          | _ => rfl
        | _ => rfl
    · rfl
  · rfl
def frzR : Option Sl → R D
  | some (.ow (.lst ds)) => if ds.length ≤ sz then .ok (.lst ds) else .bad
  | some (.ow (.dct ds)) => if ds.length ≤ sz then .ok (.dct ds) else .bad
  | some (.ow (.ins cl fs)) => .ok (.ins cl fs)
  | _ => .bad
@[simp] theorem frzR_lst (ds : List D) : frzR (some (.ow (.lst ds))) = if ds.length ≤ sz then .ok (.lst ds) else .bad := nrfl rfl
@[simp] theorem frzR_dct (ds : List (DK × D)) : frzR (some (.ow (.dct ds))) = if ds.length ≤ sz then .ok (.dct ds) else .bad := nrfl rfl
@[simp] theorem frzR_ins (cl : String) (fs : List (String × D)) : frzR (some (.ow (.ins cl fs))) = .ok (.ins cl fs) := nrfl rfl
@[simp] theorem at_frzM {α : Type} (i : Nat) (m : M α) (ρ : En) : frzM i m ρ = (frzR ρ[i]?).k ρ fun d => m (ρ.set i (.fz d)) := by
  unfold frzM frzR
  generalize ρ[i]? = o
  cases o with
  | none => rfl
  | some s => cases s with
    | ow e => cases e with
      | lst ds => dsimp only; split <;> rfl
      | dct ds => dsimp only; split <;> rfl
      | _ => rfl
    | _ => rfl
def attrR (q : Option Sl) (cl f : String) : R D := match q with
  | some (.ow (.ins c fs)) => if c = cl then R.of (lookF f fs) else .bad
  | _ => .bad
@[simp] theorem attrR_ins (c cl f : String) (fs : List (String × D)) : attrR (some (.ow (.ins c fs))) cl f = if c = cl then R.of (lookF f fs) else .bad := nrfl rfl
@[simp] theorem at_attrO (i : Nat) (cl f : String) (ρ : En) : attrO i cl f ρ = (attrR ρ[i]? cl f).k ρ fun d => .ok d ρ := by
  unfold attrO attrR
  generalize ρ[i]? = o
  cases o with
  | none => rfl
  | some s => cases s with
    | ow e => cases e with
      | ins c fs => 
        dsimp only
        split
        · cases lookF f fs <;> rfl
        · rfl
      | _ => rfl
    | _ => rfl
def staR (q : Option Sl) (cl f : String) (d : D) : R D := match q with
  | some (.ow (.ins c fs)) => if c = cl ∧ fs.length < 1000 then .ok (.ins c (putF' f d fs)) else .bad
  | _ => .bad
@[simp] theorem staR_ins (c cl f : String) (fs : List (String × D)) (d : D) : staR (some (.ow (.ins c fs))) cl f d = if c = cl ∧ fs.length < 1000 then .ok (.ins c (putF' f d fs)) else .bad := nrfl rfl
@[simp] theorem at_staO (i : Nat) (cl f : String) (a : M D) (ρ : En) : staO i cl f a ρ = (a ρ).b fun d ρ1 => (staR ρ1[i]? cl f d).k ρ1 fun e => .ok .nx (ρ1.set i (.ow e)) := by
  unfold staO
  rw [at_bnd]; congr 1; funext d ρ1
  unfold staR
  generalize ρ1[i]? = o
  cases o with
  | none => rfl
  | some s => cases s with
    | ow e => cases e with
      | ins c fs => dsimp only; split <;> rfl
      | _ => rfl
    | _ => rfl
def calVO (g : List D → OutF) (s : Sl) : R D := match s with
  | .ow j => (match g [j] with
    | .ok d [_] => .ok d
    | .err x [_] => .err x
    | _ => .bad)
  | _ => .bad
def oF1 : OutF → R D
  | .ok d [_] => .ok d
  | .err x [_] => .err x
  | _ => .bad
@[simp] theorem oF1_ok (d e : D) : oF1 (.ok d [e]) = .ok d := nrfl rfl
@[simp] theorem oF1_err (x : Xc) (e : D) : oF1 (.err x [e]) = .err x := nrfl rfl
@[simp] theorem calVO_ow (g : List D → OutF) (j : D) : calVO g (.ow j) = oF1 (g [j]) := nrfl rfl
@[simp] theorem at_calV (g : List D → OutF) (a : M Sl) (ρ : En) : calV g a ρ = (a ρ).b fun s ρ1 => (calVO g s).k ρ1 fun d => .ok d ρ1 := by
  unfold calV
  rw [at_bnd]; congr 1; funext s ρ1
  cases s with
  | ow j => rw [calVO_ow]; unfold oF1; dsimp only; generalize g [j] = o; split <;> simp_all
  | _ => rfl
def oFO : OutF → R Sl
  | .ok d _ => .ok (.fz d)
  | .oko d _ => .ok (.ow d)
  | .err x _ => .err x
  | .bad => .bad
@[simp] theorem oFO_ok (d : D) (es : List D) : oFO (.ok d es) = .ok (.fz d) := nrfl rfl
@[simp] theorem oFO_oko (d : D) (es : List D) : oFO (.oko d es) = .ok (.ow d) := nrfl rfl
@[simp] theorem at_calO (g : List D → OutF) (a : M (List D)) (ρ : En) : calO g a ρ = (a ρ).b fun ds ρ1 => (oFO (g ds)).k ρ1 fun s => .ok s ρ1 := by
  unfold calO
  rw [at_bnd]; congr 1; funext ds ρ1
  cases g ds <;> rfl
def retVO : Sl → R Fl
  | .ow d => .ok (.ro d)
  | .fz d => .ok (.rt d)
  | _ => .bad
@[simp] theorem retVO_ow (d : D) : retVO (.ow d) = .ok (.ro d) := nrfl rfl
@[simp] theorem retVO_fz (d : D) : retVO (.fz d) = .ok (.rt d) := nrfl rfl
@[simp] theorem at_retV (e : M Sl) (ρ : En) : retV e ρ = (e ρ).b fun s ρ1 => (retVO s).k ρ1 fun f => .ok f ρ1 := by
  unfold retV
  rw [at_bnd]; congr 1; funext s ρ1
  cases s <;> rfl
end DL

namespace DL
open PySem L2
/-! ### data at work: what simp knows -/
@[simp] theorem R.bind_ret {α : Type} (r : R α) : (r.bind fun a => R.ok a) = r := by cases r <;> rfl
@[simp] theorem sz_val : sz = 16777216 := of_decide_eq_true (by decide)
@[simp] theorem dIsi_ty (cls : List String) (x : D) (T : String) : dIsi cls [x, .ty T] = (isiT cls T x).map D.bl := nrfl rfl
@[simp] theorem dIsi_gl (cls : List String) (x : D) (cl : String) : dIsi cls [x, .gl cl] = (isiC cls cl x).map D.bl := nrfl rfl
@[simp] theorem isiT_str_non (cls : List String) : isiT cls "str" .non = some false := nrfl rfl
@[simp] theorem isiT_str_bl (cls : List String) (x : Bool) : isiT cls "str" (.bl x) = some false := nrfl rfl
@[simp] theorem isiT_str_int (cls : List String) (x : Int) : isiT cls "str" (.int x) = some false := nrfl rfl
@[simp] theorem isiT_str_str (cls : List String) (x : Cs) : isiT cls "str" (.str x) = some true := nrfl rfl
@[simp] theorem isiT_str_tup (cls : List String) (x : List D) : isiT cls "str" (.tup x) = some false := nrfl rfl
@[simp] theorem isiT_str_lst (cls : List String) (x : List D) : isiT cls "str" (.lst x) = some false := nrfl rfl
@[simp] theorem isiT_str_dct (cls : List String) (x : List (DK × D)) : isiT cls "str" (.dct x) = some false := nrfl rfl
@[simp] theorem isiT_int_non (cls : List String) : isiT cls "int" .non = some false := nrfl rfl
@[simp] theorem isiT_int_bl (cls : List String) (x : Bool) : isiT cls "int" (.bl x) = some true := nrfl rfl
@[simp] theorem isiT_int_int (cls : List String) (x : Int) : isiT cls "int" (.int x) = some true := nrfl rfl
@[simp] theorem isiT_int_str (cls : List String) (x : Cs) : isiT cls "int" (.str x) = some false := nrfl rfl
@[simp] theorem isiT_int_tup (cls : List String) (x : List D) : isiT cls "int" (.tup x) = some false := nrfl rfl
@[simp] theorem isiT_int_lst (cls : List String) (x : List D) : isiT cls "int" (.lst x) = some false := nrfl rfl
@[simp] theorem isiT_int_dct (cls : List String) (x : List (DK × D)) : isiT cls "int" (.dct x) = some false := nrfl rfl
@[simp] theorem isiT_bool_non (cls : List String) : isiT cls "bool" .non = some false := nrfl rfl
@[simp] theorem isiT_bool_bl (cls : List String) (x : Bool) : isiT cls "bool" (.bl x) = some true := nrfl rfl
@[simp] theorem isiT_bool_int (cls : List String) (x : Int) : isiT cls "bool" (.int x) = some false := nrfl rfl
@[simp] theorem isiT_bool_str (cls : List String) (x : Cs) : isiT cls "bool" (.str x) = some false := nrfl rfl
@[simp] theorem isiT_bool_tup (cls : List String) (x : List D) : isiT cls "bool" (.tup x) = some false := nrfl rfl
@[simp] theorem isiT_bool_lst (cls : List String) (x : List D) : isiT cls "bool" (.lst x) = some false := nrfl rfl
@[simp] theorem isiT_bool_dct (cls : List String) (x : List (DK × D)) : isiT cls "bool" (.dct x) = some false := nrfl rfl
@[simp] theorem isiT_tuple_non (cls : List String) : isiT cls "tuple" .non = some false := nrfl rfl
@[simp] theorem isiT_tuple_bl (cls : List String) (x : Bool) : isiT cls "tuple" (.bl x) = some false := nrfl rfl
@[simp] theorem isiT_tuple_int (cls : List String) (x : Int) : isiT cls "tuple" (.int x) = some false := nrfl rfl
@[simp] theorem isiT_tuple_str (cls : List String) (x : Cs) : isiT cls "tuple" (.str x) = some false := nrfl rfl
@[simp] theorem isiT_tuple_tup (cls : List String) (x : List D) : isiT cls "tuple" (.tup x) = some true := nrfl rfl
@[simp] theorem isiT_tuple_lst (cls : List String) (x : List D) : isiT cls "tuple" (.lst x) = some false := nrfl rfl
@[simp] theorem isiT_tuple_dct (cls : List String) (x : List (DK × D)) : isiT cls "tuple" (.dct x) = some false := nrfl rfl
@[simp] theorem isiT_list_non (cls : List String) : isiT cls "list" .non = some false := nrfl rfl
@[simp] theorem isiT_list_bl (cls : List String) (x : Bool) : isiT cls "list" (.bl x) = some false := nrfl rfl
@[simp] theorem isiT_list_int (cls : List String) (x : Int) : isiT cls "list" (.int x) = some false := nrfl rfl
@[simp] theorem isiT_list_str (cls : List String) (x : Cs) : isiT cls "list" (.str x) = some false := nrfl rfl
@[simp] theorem isiT_list_tup (cls : List String) (x : List D) : isiT cls "list" (.tup x) = some false := nrfl rfl
@[simp] theorem isiT_list_lst (cls : List String) (x : List D) : isiT cls "list" (.lst x) = some true := nrfl rfl
@[simp] theorem isiT_list_dct (cls : List String) (x : List (DK × D)) : isiT cls "list" (.dct x) = some false := nrfl rfl
@[simp] theorem isiT_dict_non (cls : List String) : isiT cls "dict" .non = some false := nrfl rfl
@[simp] theorem isiT_dict_bl (cls : List String) (x : Bool) : isiT cls "dict" (.bl x) = some false := nrfl rfl
@[simp] theorem isiT_dict_int (cls : List String) (x : Int) : isiT cls "dict" (.int x) = some false := nrfl rfl
@[simp] theorem isiT_dict_str (cls : List String) (x : Cs) : isiT cls "dict" (.str x) = some false := nrfl rfl
@[simp] theorem isiT_dict_tup (cls : List String) (x : List D) : isiT cls "dict" (.tup x) = some false := nrfl rfl
@[simp] theorem isiT_dict_lst (cls : List String) (x : List D) : isiT cls "dict" (.lst x) = some false := nrfl rfl
@[simp] theorem isiT_dict_dct (cls : List String) (x : List (DK × D)) : isiT cls "dict" (.dct x) = some true := nrfl rfl
@[simp] theorem isiC_non (cls : List String) (cl : String) : isiC cls cl .non = if cls.contains cl then some false else none := nrfl rfl
@[simp] theorem isiC_bl (cls : List String) (cl : String) (x : Bool) : isiC cls cl (.bl x) = if cls.contains cl then some false else none := nrfl rfl
@[simp] theorem isiC_int (cls : List String) (cl : String) (x : Int) : isiC cls cl (.int x) = if cls.contains cl then some false else none := nrfl rfl
@[simp] theorem isiC_str (cls : List String) (cl : String) (x : Cs) : isiC cls cl (.str x) = if cls.contains cl then some false else none := nrfl rfl
@[simp] theorem isiC_tup (cls : List String) (cl : String) (x : List D) : isiC cls cl (.tup x) = if cls.contains cl then some false else none := nrfl rfl
@[simp] theorem isiC_lst (cls : List String) (cl : String) (x : List D) : isiC cls cl (.lst x) = if cls.contains cl then some false else none := nrfl rfl
@[simp] theorem isiC_dct (cls : List String) (cl : String) (x : List (DK × D)) : isiC cls cl (.dct x) = if cls.contains cl then some false else none := nrfl rfl
@[simp] theorem isiT_str_ins (cls : List String) (T c : String) (fs : List (String × D)) : isiT cls T (.ins c fs) = if tys.contains T then (if cls.contains c then some false else none) else none := nrfl rfl
@[simp] theorem isiC_ins (cls : List String) (cl c : String) (fs : List (String × D)) : isiC cls cl (.ins c fs) = if cls.contains cl then (if cls.contains c then some (decide (c = cl)) else none) else none := nrfl rfl
@[simp] theorem tru_non : tru .non = some false := nrfl rfl
@[simp] theorem tru_bl (b : Bool) : tru (.bl b) = some b := nrfl rfl
@[simp] theorem tru_int (i : Int) : tru (.int i) = some (i != 0) := nrfl rfl
@[simp] theorem tru_str (x : Cs) : tru (.str x) = some (!x.isEmpty) := nrfl rfl
@[simp] theorem tru_lst (x : List D) : tru (.lst x) = some (!x.isEmpty) := nrfl rfl
@[simp] theorem tru_tup (x : List D) : tru (.tup x) = some (!x.isEmpty) := nrfl rfl
@[simp] theorem asB_bl (b : Bool) : asB (.bl b) = some b := nrfl rfl
@[simp] theorem asI_int (b : Int) : asI (.int b) = some b := nrfl rfl
@[simp] theorem asK_int (b : Int) : asK (.int b) = some (.i b) := nrfl rfl
@[simp] theorem asK_str (b : Cs) : asK (.str b) = some (.s b) := nrfl rfl
@[simp] theorem isStr_str (b : Cs) : isStr (.str b) = true := nrfl rfl
@[simp] theorem dLen_str (b : Cs) : dLen [.str b] = some (.int b.length) := nrfl rfl
@[simp] theorem dLen_lst (b : List D) : dLen [.lst b] = some (.int b.length) := nrfl rfl
@[simp] theorem dLen_tup (b : List D) : dLen [.tup b] = some (.int b.length) := nrfl rfl
@[simp] theorem on1_one (r : D → Option D) (x : D) : on1 r [x] = r x := nrfl rfl
@[simp] theorem mkT_eq (xs : List D) : mkT xs = if xs.length ≤ sz then some (.tup xs) else none := nrfl rfl
@[simp] theorem mkL_eq (xs : List D) : mkL xs = if xs.length ≤ sz then some (.lst xs) else none := nrfl rfl
@[simp] theorem dTuple_lst (x : List D) : dTuple (.lst x) = some (.tup x) := nrfl rfl
@[simp] theorem dTuple_tup (x : List D) : dTuple (.tup x) = some (.tup x) := nrfl rfl
@[simp] theorem dSeq_lst (x : List D) : dSeq (.lst x) = some x := nrfl rfl
@[simp] theorem dSeq_tup (x : List D) : dSeq (.tup x) = some x := nrfl rfl
@[simp] theorem dSeq_str (x : Cs) : dSeq (.str x) = some (x.map fun n => .str [n]) := nrfl rfl
@[simp] theorem dAdd_int (i j : Int) : dAdd (.int i) (.int j) = some (.int (i + j)) := nrfl rfl
@[simp] theorem dAdd_str (i j : Cs) : dAdd (.str i) (.str j) = if i.length + j.length ≤ sz then some (.str (i ++ j)) else none := nrfl rfl
@[simp] theorem dAdd_lst (i j : List D) : dAdd (.lst i) (.lst j) = if i.length + j.length ≤ sz then some (.lst (i ++ j)) else none := nrfl rfl
@[simp] theorem dAdd_tup (i j : List D) : dAdd (.tup i) (.tup j) = if i.length + j.length ≤ sz then some (.tup (i ++ j)) else none := nrfl rfl
@[simp] theorem dSub_int (i j : Int) : dSub (.int i) (.int j) = some (.int (i - j)) := nrfl rfl
@[simp] theorem dMod_int (i j : Int) : dMod (.int i) (.int j) = if 0 < j then some (.int (i % j)) else none := nrfl rfl
theorem log2_lt9000 {j : Int} (h : j < 18446744073709551616) (h0 : 0 < j) : j.natAbs.log2 < 9000 := by
  have h1 : j.natAbs < 2 ^ 64 := by omega
  have : j.natAbs.log2 < 64 := (Nat.log2_lt (by omega)).mpr h1
  omega
theorem dFdv_int {i j : Int} (h0 : 0 < j) (h : j < 18446744073709551616) : dFdv (.int i) (.int j) = some (.int (i / j)) := by
  show (if 0 < j ∧ j.natAbs.log2 < 9000 then some (D.int (i / j)) else none) = _; rw [if_pos ⟨h0, log2_lt9000 h h0⟩]
theorem dMul_l {i j : Int} (h : i.natAbs < 18446744073709551616) : dMul (.int i) (.int j) = some (.int (i * j)) := by
  show (if i.natAbs < 2 ^ 64 ∨ j.natAbs < 2 ^ 64 ∨ i.natAbs.log2 + j.natAbs.log2 < 100000000 then some (D.int (i * j)) else none) = _; rw [if_pos (.inl h)]
theorem dMul_r {i j : Int} (h : j.natAbs < 18446744073709551616) : dMul (.int i) (.int j) = some (.int (i * j)) := by
  show (if i.natAbs < 2 ^ 64 ∨ j.natAbs < 2 ^ 64 ∨ i.natAbs.log2 + j.natAbs.log2 < 100000000 then some (D.int (i * j)) else none) = _; rw [if_pos (.inr (.inl h))]
@[simp] theorem dNeg_int (i : Int) : dNeg (.int i) = some (.int (-i)) := nrfl rfl
@[simp] theorem dLt_int (i j : Int) : dLt (.int i) (.int j) = some (.bl (decide (i < j))) := nrfl rfl
@[simp] theorem dLe_int (i j : Int) : dLe (.int i) (.int j) = some (.bl (decide (i ≤ j))) := nrfl rfl
@[simp] theorem dGt_int (i j : Int) : dGt (.int i) (.int j) = some (.bl (decide (j < i))) := nrfl rfl
@[simp] theorem dGe_int (i j : Int) : dGe (.int i) (.int j) = some (.bl (decide (j ≤ i))) := nrfl rfl
@[simp] theorem dLt_str (i j : Cs) : dLt (.str i) (.str j) = some (.bl (decide (i < j))) := nrfl rfl
@[simp] theorem dLe_str (i j : Cs) : dLe (.str i) (.str j) = some (.bl (!decide (j < i))) := nrfl rfl
@[simp] theorem dGt_str (i j : Cs) : dGt (.str i) (.str j) = some (.bl (decide (j < i))) := nrfl rfl
@[simp] theorem dIs_non (x : D) : dIs x .non = some (.bl (isNon x)) := nrfl rfl
@[simp] theorem dIsNot_non (x : D) : dIsNot x .non = some (.bl (!isNon x)) := nrfl rfl
@[simp] theorem isNon_non : isNon .non = true := nrfl rfl
@[simp] theorem isNon_str (x : Cs) : isNon (.str x) = false := nrfl rfl
@[simp] theorem isNon_ins (c : String) (fs : List (String × D)) : isNon (.ins c fs) = false := nrfl rfl
@[simp] theorem isNon_tup (x : List D) : isNon (.tup x) = false := nrfl rfl
@[simp] theorem isNon_int (x : Int) : isNon (.int x) = false := nrfl rfl
/-! equality -/
@[simp] theorem isP_non : isP .non = true := by simp [isP]
@[simp] theorem isP_bl (x : Bool) : isP (.bl x) = true := by simp [isP]
@[simp] theorem isP_int (x : Int) : isP (.int x) = true := by simp [isP]
@[simp] theorem isP_str (x : Cs) : isP (.str x) = true := by simp [isP]
theorem isPs_all : ∀ xs : List D, isPs xs = xs.all isP
  | [] => by simp [isPs]
  | x :: r => by simp [isPs, isPs_all r]
def allP (xs : List D) : Bool := xs.all isP
@[simp] theorem allP_nil : allP [] = true := nrfl rfl
@[simp] theorem allP_cons (x : D) (xs : List D) : allP (x :: xs) = (isP x && allP xs) := nrfl rfl
@[simp] theorem allP_app (xs ys : List D) : allP (xs ++ ys) = (allP xs && allP ys) := by simp [allP]
@[simp] theorem allP_map {α : Type} (f : α → D) (xs : List α) : allP (xs.map f) = xs.all fun x => isP (f x) := by unfold allP; rw [List.all_map]; rfl
@[simp] theorem all_tt {α : Type} (xs : List α) : (xs.all fun _ => true) = true := by simp
@[simp] theorem isP_lst (xs : List D) : isP (.lst xs) = allP xs := by simp [isP, isPs_all, allP]
@[simp] theorem isP_tup (xs : List D) : isP (.tup xs) = allP xs := by simp [isP, isPs_all, allP]
theorem deps_le {n : Nat} : ∀ {xs : List D}, (∀ x ∈ xs, dep x ≤ n) → deps xs ≤ n
  | [], _ => by simp [deps]
  | x :: r, h => by
    have h1 := h x List.mem_cons_self
    have h2 := deps_le (xs := r) fun y hy => h y (List.mem_cons_of_mem _ hy)
    simp only [deps]; omega
@[simp] theorem dep_non : dep .non = 0 := by simp [dep]
@[simp] theorem dep_bl (x : Bool) : dep (.bl x) = 0 := by simp [dep]
@[simp] theorem dep_int (x : Int) : dep (.int x) = 0 := by simp [dep]
@[simp] theorem dep_str (x : Cs) : dep (.str x) = 0 := by simp [dep]
@[simp] theorem deq_int (i j : Int) : deq (.int i) (.int j) = decide (i = j) := by simp only [deq]; rfl
@[simp] theorem deq_bl (i j : Bool) : deq (.bl i) (.bl j) = decide (i = j) := by simp only [deq]; cases i <;> cases j <;> rfl
@[simp] theorem deq_str (i j : Cs) : deq (.str i) (.str j) = decide (i = j) := by
  simp only [deq]
  by_cases h : i = j
  · subst h; simp
  · rw [decide_eq_false h]; exact beq_eq_false_iff_ne.mpr h
@[simp] theorem deq_lst (i j : List D) : deq (.lst i) (.lst j) = deqs i j := by simp only [deq]
@[simp] theorem deq_tup (i j : List D) : deq (.tup i) (.tup j) = deqs i j := by simp only [deq]
@[simp] theorem deqs_nil : deqs [] [] = true := by simp only [deqs]
@[simp] theorem deqs_cons (x y : D) (xs ys : List D) : deqs (x :: xs) (y :: ys) = (deq x y && deqs xs ys) := by simp only [deqs]
@[simp] theorem deqs_nc (x : D) (xs : List D) : deqs [] (x :: xs) = false := by simp only [deqs]
@[simp] theorem deqs_cn (x : D) (xs : List D) : deqs (x :: xs) [] = false := by simp only [deqs]
@[simp] theorem dEq_int (i j : Int) : dEq (.int i) (.int j) = some (.bl (decide (i = j))) := by simp [dEq]
@[simp] theorem dNe_int (i j : Int) : dNe (.int i) (.int j) = some (.bl (!decide (i = j))) := by simp [dNe]
@[simp] theorem dEq_bl (i j : Bool) : dEq (.bl i) (.bl j) = some (.bl (decide (i = j))) := by simp [dEq]
@[simp] theorem dNe_bl (i j : Bool) : dNe (.bl i) (.bl j) = some (.bl (!decide (i = j))) := by simp [dNe]
@[simp] theorem dEq_str (i j : Cs) : dEq (.str i) (.str j) = some (.bl (decide (i = j))) := by simp [dEq]
@[simp] theorem dNe_str (i j : Cs) : dNe (.str i) (.str j) = some (.bl (!decide (i = j))) := by simp [dNe]
@[simp] theorem deqs_map {α : Type} (f : α → D) (g : α → α → Bool) (h : ∀ a b, deq (f a) (f b) = g a b) : ∀ xs ys : List α, deqs (xs.map f) (ys.map f) = (decide (xs.length = ys.length) && (xs.zip ys).all fun p => g p.1 p.2)
  | [], [] => by simp
  | [], _ :: _ => by simp
  | _ :: _, [] => by simp
  | x :: xs, y :: ys => by simp [h, deqs_map f g h xs ys, Bool.and_left_comm]
theorem deqs_inj {α : Type} [DecidableEq α] (f : α → D) (h : ∀ a b, deq (f a) (f b) = decide (a = b)) : ∀ xs ys : List α, deqs (xs.map f) (ys.map f) = decide (xs = ys)
  | [], [] => by simp
  | [], _ :: _ => by simp
  | _ :: _, [] => by simp
  | x :: xs, y :: ys => by
    simp only [List.map_cons, deqs_cons, h, deqs_inj f h xs ys, List.cons.injEq]
    by_cases h1 : x = y <;> by_cases h2 : xs = ys <;> simp [h1, h2]
mutual
theorem deq_refl : ∀ d : D, isP d = true → deq d d = true
  | .non, _ => by simp only [deq] | .bl _, _ => by simp | .int _, _ => by simp | .str _, _ => by simp
  | .tup xs, h => by rw [deq_tup]; exact deqs_refl xs (by simpa [isP] using h)
  | .lst xs, h => by rw [deq_lst]; exact deqs_refl xs (by simpa [isP] using h)
  | .dct _, h => by simp [isP] at h | .ins _ _, h => by simp [isP] at h | .exc _ _, h => by simp [isP] at h | .gl _, h => by simp [isP] at h | .ty _, h => by simp [isP] at h
theorem deqs_refl : ∀ ds : List D, isPs ds = true → deqs ds ds = true
  | [], _ => by simp
  | x :: r, h => by
    have h' : isP x = true ∧ isPs r = true := by simpa [isPs] using h
    rw [deqs_cons, deq_refl x h'.1, deqs_refl r h'.2]; rfl
end
theorem dNe_self {d : D} (h : isP d = true) (h2 : dep d ≤ 64) : dNe d d = some (.bl false) := by simp [dNe, h, deq_refl d h]; omega
/-- against an empty list -/
@[simp] theorem dNe_nil (xs : List D) : dNe (.lst xs) (.lst []) = if allP xs = true then some (.bl (!xs.isEmpty)) else none := by
  unfold dNe
  have : dep (.lst []) = 1 := by simp [dep, deps]
  have e : deq (.lst xs) (.lst []) = xs.isEmpty := by cases xs <;> simp
  have h1 : min (dep (.lst xs)) 1 ≤ 64 := by omega
  rw [this, e, decide_eq_true h1, isP_lst, isP_lst]
  simp
/-! members -/
@[simp] theorem dIn_ch (n : Nat) (b : Cs) : dIn (.str [n]) (.str b) = some (.bl (decide (n ∈ b))) := nrfl rfl
@[simp] theorem dNotIn_ch (n : Nat) (b : Cs) : dNotIn (.str [n]) (.str b) = some (.bl (!decide (n ∈ b))) := nrfl rfl
@[simp] theorem dIn_dct (x : D) (kvs : List (DK × D)) : dIn x (.dct kvs) = (asK x).map fun k => .bl (lookK k kvs).isSome := by
  unfold dIn inB; cases asK x <;> rfl
theorem any_strs {α : Type} (f : α → Cs) (a : Cs) : ∀ xs : List α, ((xs.map fun x => D.str (f x)).any fun y => deq y (.str a)) = decide (a ∈ xs.map f)
  | [] => by simp
  | x :: r => by
    simp only [List.map_cons, List.any_cons, any_strs f a r, deq_str, List.mem_cons]
    by_cases h : f x = a
    · simp [h]
    · have : ¬ a = f x := fun e => h e.symm
      simp [h, this]
theorem all_isP {α : Type} (f : α → D) (h : ∀ a, isP (f a) = true) (xs : List α) : (xs.map f).all isP = true := by
  rw [List.all_map, List.all_eq_true]; exact fun x _ => h x
@[simp] theorem dIn_strs {α : Type} (f : α → Cs) (a : Cs) (xs : List α) : dIn (.str a) (.lst (xs.map fun x => D.str (f x))) = some (.bl (decide (a ∈ xs.map f))) := by
  unfold dIn inB
  have h1 : isPs (xs.map fun x => D.str (f x)) = true := by rw [isPs_all]; exact all_isP _ (fun _ => isP_str _) xs
  simp only [h1, any_strs, isP_str, dep_str, Nat.zero_min, Nat.zero_le, decide_true, Bool.and_self, if_true, Option.map_some]
@[simp] theorem dNotIn_strs {α : Type} (f : α → Cs) (a : Cs) (xs : List α) : dNotIn (.str a) (.lst (xs.map fun x => D.str (f x))) = some (.bl (!decide (a ∈ xs.map f))) := by
  unfold dNotIn inB
  have h1 : isPs (xs.map fun x => D.str (f x)) = true := by rw [isPs_all]; exact all_isP _ (fun _ => isP_str _) xs
  simp only [h1, any_strs, isP_str, dep_str, Nat.zero_min, Nat.zero_le, decide_true, Bool.and_self, if_true, Option.map_some]
/-! places -/
theorem atI_nat' {α : Type} (xs : List α) (n : Nat) : atI xs (n : Int) = xs[n]? := by
  unfold atI ixN
  rw [if_pos (by omega)]
  by_cases h : n < xs.length
  · rw [if_pos (by omega)]; simp
  · rw [if_neg (by omega), List.getElem?_eq_none (by omega)]; rfl
@[simp] theorem dIx_lst_nat (xs : List D) (n : Nat) : dIx (.lst xs) (.int (n : Int)) = xs[n]? := atI_nat' xs n
@[simp] theorem dIx_tup_nat (xs : List D) (n : Nat) : dIx (.tup xs) (.int (n : Int)) = xs[n]? := atI_nat' xs n
@[simp] theorem dIx_str_nat (xs : Cs) (n : Nat) : dIx (.str xs) (.int (n : Int)) = (xs[n]?).map fun c => .str [c] := by
  show (atI xs (n : Int)).map _ = _; rw [atI_nat']
@[simp] theorem dIx_dct (kvs : List (DK × D)) (k : D) : dIx (.dct kvs) k = (asK k).bind fun k => lookK k kvs := by cases k <;> rfl
@[simp] theorem dAttr_ins (cl f c : String) (fs : List (String × D)) : dAttr cl f (.ins c fs) = if c = cl then lookF f fs else none := nrfl rfl
@[simp] theorem lookF_nil (f : String) : lookF f [] = none := nrfl rfl
@[simp] theorem lookF_cons (f g : String) (d : D) (r : List (String × D)) : lookF f ((g, d) :: r) = if g = f then some d else lookF f r := nrfl rfl
@[simp] theorem putF_nil (f : String) (d : D) : putF' f d [] = [(f, d)] := nrfl rfl
@[simp] theorem putF_cons (f g : String) (d e : D) (r : List (String × D)) : putF' f d ((g, e) :: r) = if g = f then (g, d) :: r else (g, e) :: putF' f d r := nrfl rfl
@[simp] theorem okIns_ins (cl m c : String) (fs : List (String × D)) : okIns cl m (.ins c fs) = (decide (c = cl) && (lookF m fs).isNone) := nrfl rfl
@[simp] theorem isIns_ins (cl c : String) (fs : List (String × D)) : isIns cl (.ins c fs) = decide (c = cl) := nrfl rfl
@[simp] theorem dSl_lst (xs : List D) (lo hi : Option Int) : dSl (.lst xs) lo hi = some (.lst (cutD xs lo hi)) := nrfl rfl
@[simp] theorem dSl_tup (xs : List D) (lo hi : Option Int) : dSl (.tup xs) lo hi = some (.tup (cutD xs lo hi)) := nrfl rfl
@[simp] theorem dSl_str (xs : Cs) (lo hi : Option Int) : dSl (.str xs) lo hi = some (.str (cutD xs lo hi)) := nrfl rfl
@[simp] theorem cut_to {α : Type} (xs : List α) (k : Nat) : cutD xs none (some (k : Int)) = xs.take k := by
  unfold cutD
  rw [HT.sIx_none, HT.sIx_nat, List.drop_zero, Nat.sub_zero]
  by_cases h : k ≤ xs.length
  · rw [Nat.min_eq_left h]
  · rw [Nat.min_eq_right (by omega), List.take_length, List.take_of_length_le (by omega)]
@[simp] theorem cut_from {α : Type} (xs : List α) (k : Nat) : cutD xs (some (k : Int)) none = xs.drop k := by
  unfold cutD
  rw [HT.sIx_none, HT.sIx_nat]
  by_cases h : k ≤ xs.length
  · rw [Nat.min_eq_left h, List.take_of_length_le (by rw [List.length_drop]; omega)]
  · rw [Nat.min_eq_right (by omega), Nat.sub_self, List.take_zero, List.drop_eq_nil_of_le (by omega)]
@[simp] theorem cut_none {α : Type} (xs : List α) : cutD xs none none = xs := by
  unfold cutD; rw [HT.sIx_none, HT.sIx_none]; simp
/-! ranges -/
def nats (n : Nat) : List D := (List.range n).map fun (i : Nat) => D.int (i : Int)
theorem rng0 (n : Nat) : rng 0 n = (List.range n).map fun (i : Nat) => D.int (i : Int) := by
  unfold rng; congr 1; funext i; rw [Int.zero_add]
@[simp] theorem dRng1_nat (n : Nat) : dRng1 [.int (n : Int)] = if n ≤ sz then some ((List.range n).map fun (i : Nat) => D.int (i : Int)) else none := by
  show (if (n : Int).toNat ≤ sz ∧ -(2 ^ 62 : Int) ≤ (n : Int) then some (rng 0 (n : Int).toNat) else none) = _
  rw [Int.toNat_natCast, rng0]
  by_cases h : n ≤ sz
  · rw [if_pos h, if_pos ⟨h, by omega⟩]
  · rw [if_neg h, if_neg fun k => h k.1]
@[simp] theorem dIx_lst_0 (xs : List D) : dIx (.lst xs) (.int 0) = xs[0]? := atI_nat' xs 0
@[simp] theorem dIx_tup_0 (xs : List D) : dIx (.tup xs) (.int 0) = xs[0]? := atI_nat' xs 0
@[simp] theorem dIx_str_0 (xs : Cs) : dIx (.str xs) (.int 0) = (xs[0]?).map fun c => .str [c] := dIx_str_nat xs 0
@[simp] theorem cut_to_0 {α : Type} (xs : List α) : cutD xs none (some 0) = xs.take 0 := cut_to xs 0
@[simp] theorem cut_from_0 {α : Type} (xs : List α) : cutD xs (some 0) none = xs.drop 0 := cut_from xs 0
@[simp] theorem dIx_lst_1 (xs : List D) : dIx (.lst xs) (.int 1) = xs[1]? := atI_nat' xs 1
@[simp] theorem dIx_tup_1 (xs : List D) : dIx (.tup xs) (.int 1) = xs[1]? := atI_nat' xs 1
@[simp] theorem dIx_str_1 (xs : Cs) : dIx (.str xs) (.int 1) = (xs[1]?).map fun c => .str [c] := dIx_str_nat xs 1
@[simp] theorem cut_to_1 {α : Type} (xs : List α) : cutD xs none (some 1) = xs.take 1 := cut_to xs 1
@[simp] theorem cut_from_1 {α : Type} (xs : List α) : cutD xs (some 1) none = xs.drop 1 := cut_from xs 1
@[simp] theorem dIx_lst_2 (xs : List D) : dIx (.lst xs) (.int 2) = xs[2]? := atI_nat' xs 2
@[simp] theorem dIx_tup_2 (xs : List D) : dIx (.tup xs) (.int 2) = xs[2]? := atI_nat' xs 2
@[simp] theorem dIx_str_2 (xs : Cs) : dIx (.str xs) (.int 2) = (xs[2]?).map fun c => .str [c] := dIx_str_nat xs 2
@[simp] theorem cut_to_2 {α : Type} (xs : List α) : cutD xs none (some 2) = xs.take 2 := cut_to xs 2
@[simp] theorem cut_from_2 {α : Type} (xs : List α) : cutD xs (some 2) none = xs.drop 2 := cut_from xs 2
@[simp] theorem dIx_lst_3 (xs : List D) : dIx (.lst xs) (.int 3) = xs[3]? := atI_nat' xs 3
@[simp] theorem dIx_tup_3 (xs : List D) : dIx (.tup xs) (.int 3) = xs[3]? := atI_nat' xs 3
@[simp] theorem dIx_str_3 (xs : Cs) : dIx (.str xs) (.int 3) = (xs[3]?).map fun c => .str [c] := dIx_str_nat xs 3
@[simp] theorem cut_to_3 {α : Type} (xs : List α) : cutD xs none (some 3) = xs.take 3 := cut_to xs 3
@[simp] theorem cut_from_3 {α : Type} (xs : List α) : cutD xs (some 3) none = xs.drop 3 := cut_from xs 3
@[simp] theorem dIx_lst_4 (xs : List D) : dIx (.lst xs) (.int 4) = xs[4]? := atI_nat' xs 4
@[simp] theorem dIx_tup_4 (xs : List D) : dIx (.tup xs) (.int 4) = xs[4]? := atI_nat' xs 4
@[simp] theorem dIx_str_4 (xs : Cs) : dIx (.str xs) (.int 4) = (xs[4]?).map fun c => .str [c] := dIx_str_nat xs 4
@[simp] theorem cut_to_4 {α : Type} (xs : List α) : cutD xs none (some 4) = xs.take 4 := cut_to xs 4
@[simp] theorem cut_from_4 {α : Type} (xs : List α) : cutD xs (some 4) none = xs.drop 4 := cut_from xs 4
@[simp] theorem dIx_lst_5 (xs : List D) : dIx (.lst xs) (.int 5) = xs[5]? := atI_nat' xs 5
@[simp] theorem dIx_tup_5 (xs : List D) : dIx (.tup xs) (.int 5) = xs[5]? := atI_nat' xs 5
@[simp] theorem dIx_str_5 (xs : Cs) : dIx (.str xs) (.int 5) = (xs[5]?).map fun c => .str [c] := dIx_str_nat xs 5
@[simp] theorem cut_to_5 {α : Type} (xs : List α) : cutD xs none (some 5) = xs.take 5 := cut_to xs 5
@[simp] theorem cut_from_5 {α : Type} (xs : List α) : cutD xs (some 5) none = xs.drop 5 := cut_from xs 5
@[simp] theorem dIx_lst_6 (xs : List D) : dIx (.lst xs) (.int 6) = xs[6]? := atI_nat' xs 6
@[simp] theorem dIx_tup_6 (xs : List D) : dIx (.tup xs) (.int 6) = xs[6]? := atI_nat' xs 6
@[simp] theorem dIx_str_6 (xs : Cs) : dIx (.str xs) (.int 6) = (xs[6]?).map fun c => .str [c] := dIx_str_nat xs 6
@[simp] theorem cut_to_6 {α : Type} (xs : List α) : cutD xs none (some 6) = xs.take 6 := cut_to xs 6
@[simp] theorem cut_from_6 {α : Type} (xs : List α) : cutD xs (some 6) none = xs.drop 6 := cut_from xs 6
@[simp] theorem dIx_lst_7 (xs : List D) : dIx (.lst xs) (.int 7) = xs[7]? := atI_nat' xs 7
@[simp] theorem dIx_tup_7 (xs : List D) : dIx (.tup xs) (.int 7) = xs[7]? := atI_nat' xs 7
@[simp] theorem dIx_str_7 (xs : Cs) : dIx (.str xs) (.int 7) = (xs[7]?).map fun c => .str [c] := dIx_str_nat xs 7
@[simp] theorem cut_to_7 {α : Type} (xs : List α) : cutD xs none (some 7) = xs.take 7 := cut_to xs 7
@[simp] theorem cut_from_7 {α : Type} (xs : List α) : cutD xs (some 7) none = xs.drop 7 := cut_from xs 7
@[simp] theorem dIx_lst_8 (xs : List D) : dIx (.lst xs) (.int 8) = xs[8]? := atI_nat' xs 8
@[simp] theorem dIx_tup_8 (xs : List D) : dIx (.tup xs) (.int 8) = xs[8]? := atI_nat' xs 8
@[simp] theorem dIx_str_8 (xs : Cs) : dIx (.str xs) (.int 8) = (xs[8]?).map fun c => .str [c] := dIx_str_nat xs 8
@[simp] theorem cut_to_8 {α : Type} (xs : List α) : cutD xs none (some 8) = xs.take 8 := cut_to xs 8
@[simp] theorem cut_from_8 {α : Type} (xs : List α) : cutD xs (some 8) none = xs.drop 8 := cut_from xs 8
@[simp] theorem dIx_lst_9 (xs : List D) : dIx (.lst xs) (.int 9) = xs[9]? := atI_nat' xs 9
@[simp] theorem dIx_tup_9 (xs : List D) : dIx (.tup xs) (.int 9) = xs[9]? := atI_nat' xs 9
@[simp] theorem dIx_str_9 (xs : Cs) : dIx (.str xs) (.int 9) = (xs[9]?).map fun c => .str [c] := dIx_str_nat xs 9
@[simp] theorem cut_to_9 {α : Type} (xs : List α) : cutD xs none (some 9) = xs.take 9 := cut_to xs 9
@[simp] theorem cut_from_9 {α : Type} (xs : List α) : cutD xs (some 9) none = xs.drop 9 := cut_from xs 9
@[simp] theorem dIx_lst_10 (xs : List D) : dIx (.lst xs) (.int 10) = xs[10]? := atI_nat' xs 10
@[simp] theorem dIx_tup_10 (xs : List D) : dIx (.tup xs) (.int 10) = xs[10]? := atI_nat' xs 10
@[simp] theorem dIx_str_10 (xs : Cs) : dIx (.str xs) (.int 10) = (xs[10]?).map fun c => .str [c] := dIx_str_nat xs 10
@[simp] theorem cut_to_10 {α : Type} (xs : List α) : cutD xs none (some 10) = xs.take 10 := cut_to xs 10
@[simp] theorem cut_from_10 {α : Type} (xs : List α) : cutD xs (some 10) none = xs.drop 10 := cut_from xs 10
@[simp] theorem dRng1_0 : dRng1 [.int 0] = some ((List.range 0).map fun (i : Nat) => D.int (i : Int)) := by rw [show (0 : Int) = ((0 : Nat) : Int) from rfl, dRng1_nat, if_pos (by decide)]
@[simp] theorem dRng1_1 : dRng1 [.int 1] = some ((List.range 1).map fun (i : Nat) => D.int (i : Int)) := by rw [show (1 : Int) = ((1 : Nat) : Int) from rfl, dRng1_nat, if_pos (by decide)]
@[simp] theorem dRng1_2 : dRng1 [.int 2] = some ((List.range 2).map fun (i : Nat) => D.int (i : Int)) := by rw [show (2 : Int) = ((2 : Nat) : Int) from rfl, dRng1_nat, if_pos (by decide)]
@[simp] theorem dRng1_3 : dRng1 [.int 3] = some ((List.range 3).map fun (i : Nat) => D.int (i : Int)) := by rw [show (3 : Int) = ((3 : Nat) : Int) from rfl, dRng1_nat, if_pos (by decide)]
@[simp] theorem dRng1_4 : dRng1 [.int 4] = some ((List.range 4).map fun (i : Nat) => D.int (i : Int)) := by rw [show (4 : Int) = ((4 : Nat) : Int) from rfl, dRng1_nat, if_pos (by decide)]
@[simp] theorem dRng1_5 : dRng1 [.int 5] = some ((List.range 5).map fun (i : Nat) => D.int (i : Int)) := by rw [show (5 : Int) = ((5 : Nat) : Int) from rfl, dRng1_nat, if_pos (by decide)]
@[simp] theorem dRng1_6 : dRng1 [.int 6] = some ((List.range 6).map fun (i : Nat) => D.int (i : Int)) := by rw [show (6 : Int) = ((6 : Nat) : Int) from rfl, dRng1_nat, if_pos (by decide)]
@[simp] theorem dRng1_7 : dRng1 [.int 7] = some ((List.range 7).map fun (i : Nat) => D.int (i : Int)) := by rw [show (7 : Int) = ((7 : Nat) : Int) from rfl, dRng1_nat, if_pos (by decide)]
@[simp] theorem dRng1_8 : dRng1 [.int 8] = some ((List.range 8).map fun (i : Nat) => D.int (i : Int)) := by rw [show (8 : Int) = ((8 : Nat) : Int) from rfl, dRng1_nat, if_pos (by decide)]
@[simp] theorem dRng1_9 : dRng1 [.int 9] = some ((List.range 9).map fun (i : Nat) => D.int (i : Int)) := by rw [show (9 : Int) = ((9 : Nat) : Int) from rfl, dRng1_nat, if_pos (by decide)]
@[simp] theorem dRng1_10 : dRng1 [.int 10] = some ((List.range 10).map fun (i : Nat) => D.int (i : Int)) := by rw [show (10 : Int) = ((10 : Nat) : Int) from rfl, dRng1_nat, if_pos (by decide)]
@[simp] theorem dRng1_11 : dRng1 [.int 11] = some ((List.range 11).map fun (i : Nat) => D.int (i : Int)) := by rw [show (11 : Int) = ((11 : Nat) : Int) from rfl, dRng1_nat, if_pos (by decide)]
@[simp] theorem dRng1_12 : dRng1 [.int 12] = some ((List.range 12).map fun (i : Nat) => D.int (i : Int)) := by rw [show (12 : Int) = ((12 : Nat) : Int) from rfl, dRng1_nat, if_pos (by decide)]
@[simp] theorem dRng1_13 : dRng1 [.int 13] = some ((List.range 13).map fun (i : Nat) => D.int (i : Int)) := by rw [show (13 : Int) = ((13 : Nat) : Int) from rfl, dRng1_nat, if_pos (by decide)]
@[simp] theorem dRng1_14 : dRng1 [.int 14] = some ((List.range 14).map fun (i : Nat) => D.int (i : Int)) := by rw [show (14 : Int) = ((14 : Nat) : Int) from rfl, dRng1_nat, if_pos (by decide)]
@[simp] theorem dRng1_15 : dRng1 [.int 15] = some ((List.range 15).map fun (i : Nat) => D.int (i : Int)) := by rw [show (15 : Int) = ((15 : Nat) : Int) from rfl, dRng1_nat, if_pos (by decide)]
@[simp] theorem dRng1_16 : dRng1 [.int 16] = some ((List.range 16).map fun (i : Nat) => D.int (i : Int)) := by rw [show (16 : Int) = ((16 : Nat) : Int) from rfl, dRng1_nat, if_pos (by decide)]
@[simp] theorem dRng1_17 : dRng1 [.int 17] = some ((List.range 17).map fun (i : Nat) => D.int (i : Int)) := by rw [show (17 : Int) = ((17 : Nat) : Int) from rfl, dRng1_nat, if_pos (by decide)]
@[simp] theorem dRng1_18 : dRng1 [.int 18] = some ((List.range 18).map fun (i : Nat) => D.int (i : Int)) := by rw [show (18 : Int) = ((18 : Nat) : Int) from rfl, dRng1_nat, if_pos (by decide)]
@[simp] theorem dRng1_19 : dRng1 [.int 19] = some ((List.range 19).map fun (i : Nat) => D.int (i : Int)) := by rw [show (19 : Int) = ((19 : Nat) : Int) from rfl, dRng1_nat, if_pos (by decide)]
@[simp] theorem dRng1_20 : dRng1 [.int 20] = some ((List.range 20).map fun (i : Nat) => D.int (i : Int)) := by rw [show (20 : Int) = ((20 : Nat) : Int) from rfl, dRng1_nat, if_pos (by decide)]
@[simp] theorem dRng1_21 : dRng1 [.int 21] = some ((List.range 21).map fun (i : Nat) => D.int (i : Int)) := by rw [show (21 : Int) = ((21 : Nat) : Int) from rfl, dRng1_nat, if_pos (by decide)]
@[simp] theorem dRng1_22 : dRng1 [.int 22] = some ((List.range 22).map fun (i : Nat) => D.int (i : Int)) := by rw [show (22 : Int) = ((22 : Nat) : Int) from rfl, dRng1_nat, if_pos (by decide)]
@[simp] theorem dRng1_23 : dRng1 [.int 23] = some ((List.range 23).map fun (i : Nat) => D.int (i : Int)) := by rw [show (23 : Int) = ((23 : Nat) : Int) from rfl, dRng1_nat, if_pos (by decide)]
@[simp] theorem dRng1_24 : dRng1 [.int 24] = some ((List.range 24).map fun (i : Nat) => D.int (i : Int)) := by rw [show (24 : Int) = ((24 : Nat) : Int) from rfl, dRng1_nat, if_pos (by decide)]
@[simp] theorem dRng1_25 : dRng1 [.int 25] = some ((List.range 25).map fun (i : Nat) => D.int (i : Int)) := by rw [show (25 : Int) = ((25 : Nat) : Int) from rfl, dRng1_nat, if_pos (by decide)]
@[simp] theorem dRng1_26 : dRng1 [.int 26] = some ((List.range 26).map fun (i : Nat) => D.int (i : Int)) := by rw [show (26 : Int) = ((26 : Nat) : Int) from rfl, dRng1_nat, if_pos (by decide)]
@[simp] theorem dRng1_27 : dRng1 [.int 27] = some ((List.range 27).map fun (i : Nat) => D.int (i : Int)) := by rw [show (27 : Int) = ((27 : Nat) : Int) from rfl, dRng1_nat, if_pos (by decide)]
@[simp] theorem dRng1_28 : dRng1 [.int 28] = some ((List.range 28).map fun (i : Nat) => D.int (i : Int)) := by rw [show (28 : Int) = ((28 : Nat) : Int) from rfl, dRng1_nat, if_pos (by decide)]
@[simp] theorem dRng1_29 : dRng1 [.int 29] = some ((List.range 29).map fun (i : Nat) => D.int (i : Int)) := by rw [show (29 : Int) = ((29 : Nat) : Int) from rfl, dRng1_nat, if_pos (by decide)]
@[simp] theorem dRng1_30 : dRng1 [.int 30] = some ((List.range 30).map fun (i : Nat) => D.int (i : Int)) := by rw [show (30 : Int) = ((30 : Nat) : Int) from rfl, dRng1_nat, if_pos (by decide)]
/-! lists of one kind -/
@[simp] theorem dAny_map {α : Type} (f : α → Bool) (l : List α) : dAny (.lst (l.map fun x => D.bl (f x))) = some (.bl (l.any f)) := by
  have e : l.map (fun x => D.bl (f x)) = (l.map f).map D.bl := by rw [List.map_map]; rfl
  simp only [dAny, e, bools_map, Option.map_some, List.any_map]
  rfl
@[simp] theorem dAll_map {α : Type} (f : α → Bool) (l : List α) : dAll (.lst (l.map fun x => D.bl (f x))) = some (.bl (l.all f)) := by
  have e : l.map (fun x => D.bl (f x)) = (l.map f).map D.bl := by rw [List.map_map]; rfl
  simp only [dAll, e, bools_map, Option.map_some, List.all_map]
  rfl
@[simp] theorem dAny_nil : dAny (.lst []) = some (.bl false) := nrfl rfl
@[simp] theorem dAll_nil : dAll (.lst []) = some (.bl true) := nrfl rfl
theorem join_nil : ∀ l : List Cs, joinCs [] l = l.flatten
  | [] => rfl
  | [x] => by simp [joinCs]
  | x :: y :: r => by
    have := join_nil (y :: r)
    unfold joinCs
    rw [this]; simp
@[simp] theorem asStrs_map {α : Type} (f : α → Cs) (l : List α) : asStrs (l.map fun x => D.str (f x)) = some (l.map f) := by
  have e : l.map (fun x => D.str (f x)) = (l.map f).map D.str := by rw [List.map_map]; rfl
  rw [e, strs_map]
@[simp] theorem asInts_map {α : Type} (f : α → Int) (l : List α) : asInts (l.map fun x => D.int (f x)) = some (l.map f) := by
  have e : l.map (fun x => D.int (f x)) = (l.map f).map D.int := by rw [List.map_map]; rfl
  rw [e, ints_map]
@[simp] theorem dSeqL_lst (x : List D) : dSeqL (.lst x) = some x := nrfl rfl
@[simp] theorem dSeqL_tup (x : List D) : dSeqL (.tup x) = some x := nrfl rfl
@[simp] theorem dJoin_eq (a : Cs) (x : D) : dJoin (.str a) [x] = ((dSeqL x).bind asStrs).bind fun ss => if (ss.map List.length).sum + ss.length * a.length ≤ sz then some (.str (joinCs a ss)) else none := nrfl rfl
@[simp] theorem joinCs_nil (l : List Cs) : joinCs [] l = l.flatten := join_nil l
@[simp] theorem flat_ones {α : Type} (f : α → Nat) (l : List α) : (l.map fun x => [f x]).flatten = l.map f := by
  induction l with
  | nil => rfl
  | cons x r ih => simp [ih]
@[simp] theorem sum_ones' {α : Type} (l : List α) : (l.map fun _ => 1).sum = l.length := by
  induction l with
  | nil => rfl
  | cons x r ih => simp [ih]; omega
end DL

namespace DL
open PySem L2
/-! ### comprehensions that draw -/
def onO {α : Type} (o : Option En) (f : En → Out α) : Out α := match o with
  | some ρ => f ρ
  | none => .bad
@[simp] theorem onO_some {α : Type} (ρ : En) (f : En → Out α) : onO (some ρ) f = f ρ := nrfl rfl
@[simp] theorem onO_none {α : Type} (f : En → Out α) : onO none f = .bad := nrfl rfl
def turnC (vs : List Nat) (t : Tg) (mt : M Bool) (me : M D) (d : D) (ρ : En) : Out (Option D) := onO (t d ρ) fun ρ1 => (mt ρ1).b fun b ρ2 => if b = true then (me ρ2).b fun y ρ3 => if noOw ρ3 vs = true then .ok (some y) (wipeE ρ3 vs) else .bad else if noOw ρ2 vs = true then .ok none (wipeE ρ2 vs) else .bad
theorem lcL_turn {vs : List Nat} {t : Tg} {mt : M Bool} {me : M D} {d : D} {r acc : List D} {ρ ρ' : En} {o : Option D} (h : turnC vs t mt me d ρ = .ok o ρ') : lcL vs t mt me (d :: r) acc ρ = lcL vs t mt me r (acc ++ o.toList) ρ' := by
  rw [show lcL vs t mt me (d :: r) acc ρ = (match t d ρ with
    | none => .bad
    | some ρ1 => match mt ρ1 with
      | .ok true ρ2 => (match me ρ2 with
        | .ok y ρ3 => if noOw ρ3 vs then lcL vs t mt me r (acc ++ [y]) (wipeE ρ3 vs) else .bad
        | _ => .bad)
      | .ok false ρ2 => if noOw ρ2 vs then lcL vs t mt me r acc (wipeE ρ2 vs) else .bad
      | _ => .bad) from rfl]
  unfold turnC at h
  cases e1 : t d ρ with
  | none => rw [e1] at h; cases h
  | some ρ1 =>
    rw [e1, onO_some] at h
    dsimp only
    cases e2 : mt ρ1 with
    | bad => rw [e2] at h; cases h
    | err x ρ2 => rw [e2] at h; cases h
    | ok b ρ2 =>
      rw [e2, Out.b_ok] at h
      cases b with
      | false =>
        rw [if_neg Bool.false_ne_true] at h
        split at h
        · rename_i q; cases h; simp [q]
        · cases h
      | true =>
        rw [if_pos rfl] at h
        dsimp only
        cases e3 : me ρ2 with
        | bad => rw [e3] at h; cases h
        | err x ρ2 => rw [e3] at h; cases h
        | ok y ρ3 =>
          rw [e3, Out.b_ok] at h
          split at h
          · rename_i q; cases h; simp [q]
          · cases h
theorem lcL_st {σ τ : Type} {vs : List Nat} {t : Tg} {mt : M Bool} {me : M D} (g : τ → D) (fr : σ → En) (P : List τ → List D → σ → Prop) : ∀ (xs ps : List τ) (acc : List D) (s0 : σ), P ps acc s0 → (∀ (ys zs : List τ) (x : τ), xs = ys ++ x :: zs → ∀ acc s, P (ps ++ ys) acc s → ∃ o s', turnC vs t mt me (g x) (fr s) = .ok o (fr s') ∧ P (ps ++ ys ++ [x]) (acc ++ o.toList) s') →
    ∃ ys s', lcL vs t mt me (xs.map g) acc (fr s0) = .ok ys (fr s') ∧ P (ps ++ xs) ys s'
  | [], ps, acc, s0, h0, _ => ⟨acc, s0, rfl, by rw [List.append_nil]; exact h0⟩
  | d :: r, ps, acc, s0, h0, h => by
    obtain ⟨o, s1, h1, p1⟩ := h [] r d rfl acc s0 (by rw [List.append_nil]; exact h0)
    rw [List.append_nil] at p1
    obtain ⟨ys, s2, h2, p2⟩ := lcL_st g fr P r (ps ++ [d]) (acc ++ o.toList) s1 p1 fun ys zs x e acc s hs => by
      have := h (d :: ys) zs x (by rw [e]; rfl) acc s (by simpa using hs)
      simpa using this
    exact ⟨ys, s2, by rw [List.map_cons, lcL_turn h1]; exact h2, by simpa using p2⟩
theorem lcM_st {σ τ : Type} {src : M (List D)} {vs : List Nat} {t : Tg} {mt : M Bool} {me : M D} (g : τ → D) (fr : σ → En) (P : List τ → List D → σ → Prop) {xs : List τ} {s0 : σ} {ρ : En} (hs : src ρ = .ok (xs.map g) (fr s0)) (hf : ∀ s, ∀ i ∈ vs, (fr s)[i]? = some .un) (h0 : P [] [] s0)
    (h : ∀ (ys zs : List τ) (x : τ), xs = ys ++ x :: zs → ∀ acc s, P ys acc s → ∃ o s', turnC vs t mt me (g x) (fr s) = .ok o (fr s') ∧ P (ys ++ [x]) (acc ++ o.toList) s') : ∃ ys s', lcM src vs t mt me ρ = .ok (.lst ys) (fr s') ∧ P xs ys s' := by
  obtain ⟨ys, s', h1, h2⟩ := lcL_st g fr P xs [] [] s0 h0 (by simpa using h)
  refine ⟨ys, s', ?_, by simpa using h2⟩
  have hw : wipeE (fr s0) vs = fr s0 := by
    apply List.ext_getElem?
    intro i
    by_cases hi : i ∈ vs
    · have := hf s0 i hi
      rw [this]
      have hl := (List.getElem?_eq_some_iff.mp this).1
      rcases wipeE_in (ρ := fr s0) hi with q | q
      · have := List.getElem?_eq_none_iff.mp q
        rw [wipeE_length] at this
        omega
      · exact q
    · exact wipeE_out hi
  have hn : noOw (fr s0) vs = true := by
    unfold noOw
    rw [List.all_eq_true]
    intro i hi
    rw [hf s0 i hi]
  unfold lcM bnd
  simp only [hs, hn, if_true, hw, h1]
  congr 1
  have key : ∀ us : List Nat, (∀ i ∈ us, (fr s0)[i]? = some .un ∧ (fr s')[i]? = some .un) → back (fr s0) (fr s') us = fr s' := by
    intro us
    induction us with
    | nil => intro _; rfl
    | cons u us ih =>
      intro q
      have ih' := ih fun i hi => q i (List.mem_cons_of_mem _ hi)
      obtain ⟨q1, q2⟩ := q u List.mem_cons_self
      show (match (fr s0)[u]? with | some s => (back (fr s0) (fr s') us).set u s | none => back (fr s0) (fr s') us) = _
      rw [q1, ih']
      dsimp only
      apply List.ext_getElem?
      intro j
      by_cases hj : u = j
      · subst hj; rw [List.getElem?_set_self (List.getElem?_eq_some_iff.mp q2).1, q2]
      · rw [List.getElem?_set_ne hj]
  exact key vs fun i hi => ⟨hf s0 i hi, hf s' i hi⟩
/-! loops over written lists -/
def contF (o : Out Fl) (r : M Fl) : Out Fl := match o with
  | .ok .nx ρ => r ρ
  | .ok .ct ρ => r ρ
  | .ok .bk ρ => .ok .nx ρ
  | o => o
@[simp] theorem contF_nx (ρ : En) (r : M Fl) : contF (.ok .nx ρ) r = r ρ := nrfl rfl
@[simp] theorem contF_ct (ρ : En) (r : M Fl) : contF (.ok .ct ρ) r = r ρ := nrfl rfl
@[simp] theorem contF_bk (ρ : En) (r : M Fl) : contF (.ok .bk ρ) r = .ok .nx ρ := nrfl rfl
@[simp] theorem contF_rt (d : D) (ρ : En) (r : M Fl) : contF (.ok (.rt d) ρ) r = .ok (.rt d) ρ := nrfl rfl
@[simp] theorem contF_bad (r : M Fl) : contF .bad r = .bad := nrfl rfl
@[simp] theorem contF_err (x : Xc) (ρ : En) (r : M Fl) : contF (.err x ρ) r = .err x ρ := nrfl rfl
@[simp] theorem contF_ite (p : Prop) [Decidable p] (x y : Out Fl) (r : M Fl) : contF (if p then x else y) r = if p then contF x r else contF y r := by split <;> rfl
@[simp] theorem contF_k {α : Type} (q : R α) (ρ : En) (f : α → Out Fl) (r : M Fl) : contF (q.k ρ f) r = q.k ρ fun a => contF (f a) r := by cases q <;> rfl
@[simp] theorem at_forL_nil (t : Tg) (body : M Fl) (ρ : En) : forL t body [] ρ = .ok .nx ρ := nrfl rfl
@[simp] theorem at_forL_cons (t : Tg) (body : M Fl) (d : D) (r : List D) (ρ : En) : forL t body (d :: r) ρ = contF (turn t body d ρ) (forL t body r) := by
  unfold turn
  rw [show forL t body (d :: r) ρ = (match t d ρ with
    | none => .bad
    | some ρ' => match body ρ' with
      | .ok .nx ρ2 => forL t body r ρ2
      | .ok .ct ρ2 => forL t body r ρ2
      | .ok .bk ρ2 => .ok .nx ρ2
      | o => o) from rfl]
  cases t d ρ with
  | none => rfl
  | some ρ1 =>
    dsimp only
    cases body ρ1 with
    | ok f ρ2 => cases f <;> rfl
    | _ => rfl
/-! signs in order -/
def leN (a b : Nat) : Bool := decide (a ≤ b)
def sortN : Cs → Cs := isort leN
theorem leS_one (a b : Nat) : leS [a] [b] = leN a b := by
  unfold leS leN
  by_cases h : a ≤ b
  · have : ¬ ([b] < [a]) := by rw [List.cons_lt_cons_iff]; simp; omega
    simp [this, h]
  · have : [b] < [a] := by rw [List.cons_lt_cons_iff]; exact .inl (by omega)
    simp [this, h]
theorem insert_one (a : Nat) : ∀ l : Cs, insert' leS [a] (l.map fun n => [n]) = (insert' leN a l).map fun n => [n]
  | [] => rfl
  | b :: r => by
    simp only [List.map_cons, insert', leS_one]
    split
    · rfl
    · rw [List.map_cons, insert_one a r]
theorem sort_one : ∀ l : Cs, sortS (l.map fun n => [n]) = (sortN l).map fun n => [n]
  | [] => rfl
  | a :: r => by
    show insert' leS [a] (isort leS (r.map fun n => [n])) = _
    have := sort_one r
    unfold sortS at this
    rw [this, insert_one]
    rfl
theorem sortN_perm (l : Cs) : (sortN l).Perm l := isort_perm leN l
@[simp] theorem sortN_length (l : Cs) : (sortN l).length = l.length := (sortN_perm l).length_eq
@[simp] theorem mem_sortN {a : Nat} {l : Cs} : a ∈ sortN l ↔ a ∈ l := (sortN_perm l).mem_iff
theorem dd_one : ∀ (c l : Cs), dd (c.map fun n => [n]) (l.map fun n => [n]) = (c.foldl (fun l a => if a ∈ l then l else a :: l) l).map fun n => [n]
  | [], l => rfl
  | a :: r, l => by
    simp only [List.map_cons, dd, List.foldl_cons]
    by_cases h : a ∈ l
    · rw [if_pos (List.mem_map.mpr ⟨a, h, rfl⟩), if_pos h, dd_one r l]
    · rw [if_neg (by simpa using h), if_neg h, ← List.map_cons (f := fun n => [n]), dd_one r (a :: l)]
theorem ddN_mem (x : Nat) : ∀ (c l : Cs), x ∈ c.foldl (fun l a => if a ∈ l then l else a :: l) l ↔ x ∈ c ∨ x ∈ l
  | [], l => by simp
  | a :: r, l => by
    rw [List.foldl_cons, ddN_mem x r]
    by_cases h : a ∈ l
    · rw [if_pos h]; simp only [List.mem_cons]
      constructor
      · rintro (q | q)
        · exact .inl (.inr q)
        · exact .inr q
      · rintro ((q | q) | q)
        · subst q; exact .inr h
        · exact .inl q
        · exact .inr q
    · rw [if_neg h]; simp only [List.mem_cons]
      constructor
      · rintro (q | q | q)
        · exact .inl (.inr q)
        · exact .inl (.inl q)
        · exact .inr q
      · rintro ((q | q) | q)
        · exact .inr (.inl q)
        · exact .inl q
        · exact .inr (.inr q)
theorem ddN_nodup : ∀ (c l : Cs), l.Nodup → (c.foldl (fun l a => if a ∈ l then l else a :: l) l).Nodup
  | [], l, h => h
  | a :: r, l, h => by
    rw [List.foldl_cons]
    by_cases q : a ∈ l
    · rw [if_pos q]; exact ddN_nodup r l h
    · rw [if_neg q]; exact ddN_nodup r _ (List.nodup_cons.mpr ⟨q, h⟩)
/-- the signs of a list, each once, in order -/
def setN (c : Cs) : Cs := sortN (c.foldl (fun l a => if a ∈ l then l else a :: l) [])
/-! more about data -/
@[simp] theorem filter_tt {α : Type} (xs : List α) : xs.filter (fun _ => true) = xs := List.filter_eq_self.mpr fun _ _ => rfl
@[simp] theorem lcx_take {τ υ : Type} (g : υ → τ) (t : τ → R Bool) (e : τ → R D) (k : Nat) (xs : List υ) : lcx t e ((xs.map g).take k) = lcx (fun x => t (g x)) (fun x => e (g x)) (xs.take k) := by rw [← List.map_take, lcx_map]
@[simp] theorem lcx_drop {τ υ : Type} (g : υ → τ) (t : τ → R Bool) (e : τ → R D) (k : Nat) (xs : List υ) : lcx t e ((xs.map g).drop k) = lcx (fun x => t (g x)) (fun x => e (g x)) (xs.drop k) := by rw [← List.map_drop, lcx_map]
@[simp] theorem asStrs_nil : asStrs [] = some [] := nrfl rfl
@[simp] theorem asInts_nil : asInts [] = some [] := nrfl rfl
@[simp] theorem comp_len1 {α : Type} (f : α → Nat) : (List.length ∘ fun x => [f x]) = fun _ => 1 := nrfl rfl
@[simp] theorem fin_bad (io : List Nat) : finF io .bad = .bad := nrfl rfl
@[simp] theorem dIx_lst_succ (xs : List D) (n : Nat) : dIx (.lst xs) (.int ((n : Int) + 1)) = xs[n + 1]? := dIx_lst_nat xs (n + 1)
@[simp] theorem dIx_tup_succ (xs : List D) (n : Nat) : dIx (.tup xs) (.int ((n : Int) + 1)) = xs[n + 1]? := dIx_tup_nat xs (n + 1)
@[simp] theorem dIx_str_succ (xs : Cs) (n : Nat) : dIx (.str xs) (.int ((n : Int) + 1)) = (xs[n + 1]?).map fun c => .str [c] := dIx_str_nat xs (n + 1)
@[simp] theorem dInt_int (i : Int) : dInt (.int i) = some (.int i) := nrfl rfl
@[simp] theorem dAbs_int (i : Int) : dAbs (.int i) = some (.int (if i < 0 then -i else i)) := nrfl rfl
@[simp] theorem dMax2_int (i j : Int) : dMax2 [.int i, .int j] = some (.int (if j > i then j else i)) := nrfl rfl
@[simp] theorem dMin2_int (i j : Int) : dMin2 [.int i, .int j] = some (.int (if j < i then j else i)) := nrfl rfl
@[simp] theorem atI_nat2 {α : Type} (xs : List α) (n : Nat) : atI xs (n : Int) = xs[n]? := atI_nat' xs n
@[simp] theorem lookK_nil (k : DK) : lookK k [] = none := nrfl rfl
@[simp] theorem lookK_cons (k j : DK) (d : D) (r : List (DK × D)) : lookK k ((j, d) :: r) = if j = k then some d else lookK k r := nrfl rfl
@[simp] theorem dKeys_dct (kvs : List (DK × D)) : dKeys (.dct kvs) = some (kvs.map fun kv => dOfK kv.1) := nrfl rfl
@[simp] theorem dOfK_s (a : Cs) : dOfK (.s a) = .str a := nrfl rfl
@[simp] theorem dOfK_i (a : Int) : dOfK (.i a) = .int a := nrfl rfl
theorem forL_const {τ : Type} {t : Tg} {body : M Fl} (g : τ → D) {ρ : En} : ∀ {xs : List τ}, (∀ x ∈ xs, turn t body (g x) ρ = .ok .nx ρ) → forL t body (xs.map g) ρ = .ok .nx ρ
  | [], _ => rfl
  | x :: r, h => by rw [List.map_cons, forL_cons_nx (h x List.mem_cons_self)]; exact forL_const g fun y hy => h y (List.mem_cons_of_mem _ hy)
theorem putK_new {k : DK} {d : D} {kvs : List (DK × D)} (h : ∀ kv ∈ kvs, kv.1 ≠ k) : putK' k d kvs = kvs ++ [(k, d)] := by
  unfold putK'
  rw [if_neg]
  rw [Bool.not_eq_true, List.any_eq_false]
  intro kv hkv
  simpa using h kv hkv
theorem foldl_snoc {α β : Type} (f : α → β) : ∀ (xs : List α) (acc : List β), xs.foldl (fun s x => s ++ [f x]) acc = acc ++ xs.map f
  | [], acc => by simp
  | x :: r, acc => by simp [foldl_snoc f r]
end DL

namespace DL
open PySem PySem.Spec PyProof.Rows L2 PySem.Froz
/-! ### sorted of a text -/
section
variable {P : Program} {w : World} {A : Around} {E : Value → Shared → Prop} {s : Shared}
theorem sorted_text {x : Str} {t : Tok} {Q : Value → Shared → Prop} (hh : A.handled = none) (h64 : x.cps.size < 64)
    (hQ : ∀ s' p (out : Array Value) (c : Nat) (ys : List Str), (∀ b o, s.heap.get? b = some o → s'.heap.get? b = some o) → s'.gens = s.gens → s'.os = s.os → s.heap.get? p = none → (∀ H : Hp, HOk P w H s.heap → H p = none) →
      s'.heap.get? p = some (seqObj "list" out c) → StrsAre out.toList ys → ys.Perm (x.cps.toList.map fun n => (⟨#[n]⟩ : Str)) → sortedS ys = true → Q (.ref p) s') :
    wpAny (model P w) A (call (.builtin "sorted") [.str x t]) Q E s := by
  refine Calls.call_function_entry kind_sorted plain_sorted entry_sorted (args_sorted1 _) ?_
  unfold Builtin.«sorted»
  refine wpAny_bind (m := checkCount "sorted" 1 1 _) (wpAny_pure ?_)
  refine wpAny_bind (wpAny_collect_str (A := A.in1) hh x t (fun s1 acc k1 g1 _ o1 it => ?_) (by rw [sizeLine_eq]; omega))
  have hvl : acc.toList.length = x.cps.size := by rw [Array.length_toList]; exact it.1
  have key : ∀ (j : Nat) v, acc.toList[j]? = some v → ∃ c u, x.cps.toList[j]? = some c ∧ v = .str ⟨#[c]⟩ u := fun j v hj => by
    obtain ⟨c, u, h1, h2⟩ := it.2 j v (by rw [← Array.getElem?_toList]; exact hj)
    exact ⟨c, u, by rw [Array.getElem?_toList]; exact h1, h2⟩
  have hI : StrsAre acc.toList (acc.toList.map vStr) := strs_are fun v hv => by
    obtain ⟨j, hj⟩ := List.mem_iff_getElem?.mp hv
    obtain ⟨c, u, _, h2⟩ := key j v hj
    exact ⟨_, u, h2⟩
  have hm : acc.toList.map vStr = x.cps.toList.map fun n => (⟨#[n]⟩ : Str) := by
    apply List.ext_getElem?
    intro j
    rw [List.getElem?_map, List.getElem?_map]
    cases e : acc.toList[j]? with
    | none =>
      have := List.getElem?_eq_none_iff.mp e
      rw [List.getElem?_eq_none (by rw [Array.length_toList]; omega)]
      rfl
    | some v =>
      obtain ⟨c, u, h1, h2⟩ := key j v e
      rw [h1, h2]; rfl
  refine wpAny_bind (wpAny_newList ?_ (by rw [hvl, sizeLine_eq]; omega))
  have hoL : (s1.heap.push (seqObj "list" acc.toList.toArray 0)).get? s1.heap.objs.size = some (seqObj "list" acc.toList.toArray 0) := Heap.get?_push_size _ rfl
  refine wpAny_bind (wpAny_holding (wpAny_call_entry slot_list_sort ⟨_, hoL, rfl⟩ entry_list_sort (list_sort_treeK strKind_oneLt hoL hI.keysOf (fun v₁ v₂ rest e => keyKind_strs (by rw [← e]; exact hI)) (by rw [hvl]; exact h64) fun st' hp hs => ⟨_, rfl, ?_⟩) (args_list_sort _)))
  obtain ⟨ys, g2, g3, g4⟩ := sorted_out_str hI hp hs
  obtain ⟨c, hc⟩ := sortedHeap_at (vs := acc.toList) (out := (arrOf st').map (·.2)) hoL
  have hnone : s.heap.get? s1.heap.objs.size = none := by
    cases e : s.heap.get? s1.heap.objs.size with
    | none => rfl
    | some o => exact absurd (Heap.lt_size (k1 _ _ e)) (Nat.lt_irrefl _)
  refine wpAny_pure ⟨_, rfl, hQ _ s1.heap.objs.size _ c ys (fun b u e => ?_) g1 o1 hnone (fun H x => (x.kept k1).fresh (Nat.le_refl _)) hc g2 (by rw [← hm]; exact g3) g4⟩
  have q := k1 b u e
  have hlt := Heap.lt_size q
  show (sortedHeap (s1.heap.push (seqObj "list" acc.toList.toArray 0)) s1.heap.objs.size acc.toList _).get? b = some u
  rw [sortedHeap_old (Nat.ne_of_lt hlt) (by rw [size_push']; exact Nat.lt_succ_of_lt hlt)]
  exact Heap.get?_push_of_some _ q
end
section
variable {X : Cx}
def rSortedText : List V → Hp → VK → Prop := fun xs H Q => ∃ cs : Cs, xs = [.str (toS cs)] ∧ cs.length < 64 ∧ ∀ (ys : List Str) p, ys.Perm (cs.map fun n => toS [n]) → sortedS ys = true → H p = none → Q (.ref p) (upd H p (.lst (ys.map V.str)))
theorem cr_sortedText (hc : X.calm = true) : CallR X (.builtin "sorted") rSortedText := by
  intro pins s σ H vs us Q I r ⟨cs, ex, h64, q⟩
  subst ex
  obtain ⟨u, rfl, t, rfl⟩ := vals1 r
  refine sorted_text (I.ok.hd hc) (by simpa [toS] using h64) fun s' p out c ys k g o hp hfr hg hi hperm hs => ?_
  have hperm : ys.Perm (cs.map fun n => toS [n]) := by simpa [toS] using hperm
  have hlen : (ys.map V.str).length ≤ sizeLine := by rw [List.length_map, hperm.length_eq, List.length_map, sizeLine_eq]; omega
  have hn : H p = none := hfr H I.hok
  have J : Inv X pins σ (upd H p (.lst (ys.map V.str))) { s with heap := s'.heap, gens := s'.gens, drawn := s'.drawn, toks := s'.toks } :=
    I.call (ch := []) (Un.laidN k hp hn) (I.hok.laidN k hn ⟨hlen, out.toList, c, vals_of_strs hi, hg⟩) (by rw [g]; exact I.bare) (fun _ z => nomatch z)
  have e : s' = { s with heap := s'.heap, gens := s'.gens, drawn := s'.drawn, toks := s'.toks } := by
    obtain ⟨_, _, _, _, _⟩ := s'
    obtain ⟨_, _, _, _, _⟩ := s
    cases o
    rfl
  rw [e]
  exact ⟨.ref p, _, J, rfl, q ys p hperm hs hn⟩
end
end DL

namespace DL
open PySem L2
section
variable {c : Stat}
def dSortedA : D → Option D
  | .str cs => if cs.length < 64 then some (.lst ((sortN cs).map fun n => .str [n])) else none
  | x => dSorted x
theorem b_sortedA (hc : c.hot = false := by first | rfl | assumption) : BCl c (.builtin "sorted") (on1 dSortedA) := fun X W z => by
  obtain ⟨rV, o, k⟩ := b_sorted (c := c) X W z
  refine ⟨_, CallR.or (cr_sortedText (z.calm hc)) o, r1 fun F H x dx d Q s h e a => ?_⟩
  cases dx with
  | str cs =>
    cases h
    rename_i hok
    simp only [dSortedA] at e
    split at e
    case isFalse => cases e
    rename_i h64
    cases e
    refine .inl ⟨cs, rfl, h64, fun ys p hp hsr hn => ?_⟩
    have hp' : ys.Perm ((cs.map fun n => [n]).map toS) := by rw [List.map_map]; exact hp
    rw [sortedS_eq hp' hsr, sort_one]
    refine after_lst (ds := (sortN cs).map fun n => D.str [n]) s a hn ?_ (by rw [List.length_map, sortN_length, sz_val]; omega)
    have := dns_strs (K := c.K) (mg := c.mg) (F := F) (cs := (sortN cs).map fun n => [n]) fun x hx => by
      obtain ⟨n, hn, rfl⟩ := List.mem_map.mp hx
      exact okS_one (hok.2 _ (mem_sortN.mp hn))
    rw [show (sortN cs).map (fun n => D.str [n]) = ((sortN cs).map fun n => [n]).map D.str by rw [List.map_map]; rfl]
    exact this
  | _ => exact .inr (k F H [x] [_] d Q s (.cons h .nil) e a)
/-! max, min of a list of numbers -/
def maxL : List Int → Option Int
  | [] => none
  | x :: r => some (r.foldl max x)
def minL : List Int → Option Int
  | [] => none
  | x :: r => some (r.foldl min x)
theorem foldl_max (r : List Int) : ∀ x : Int, (r.foldl max x = x ∨ r.foldl max x ∈ r) ∧ x ≤ r.foldl max x ∧ ∀ y ∈ r, y ≤ r.foldl max x := by
  induction r with
  | nil => intro x; exact ⟨.inl rfl, Int.le_refl _, fun _ h => nomatch h⟩
  | cons a r ih =>
    intro x
    obtain ⟨h1, h2, h3⟩ := ih (max x a)
    rw [List.foldl_cons]
    refine ⟨?_, by omega, fun y hy => ?_⟩
    · rcases h1 with h | h
      · rw [h]
        by_cases q : x ≤ a
        · right; rw [Int.max_eq_right q]; exact List.mem_cons_self
        · left; rw [Int.max_eq_left (by omega)]
      · exact .inr (List.mem_cons_of_mem _ h)
    · rcases List.mem_cons.mp hy with rfl | h
      · omega
      · exact h3 y h
theorem foldl_min (r : List Int) : ∀ x : Int, (r.foldl min x = x ∨ r.foldl min x ∈ r) ∧ r.foldl min x ≤ x ∧ ∀ y ∈ r, r.foldl min x ≤ y := by
  induction r with
  | nil => intro x; exact ⟨.inl rfl, Int.le_refl _, fun _ h => nomatch h⟩
  | cons a r ih =>
    intro x
    obtain ⟨h1, h2, h3⟩ := ih (min x a)
    rw [List.foldl_cons]
    refine ⟨?_, by omega, fun y hy => ?_⟩
    · rcases h1 with h | h
      · rw [h]
        by_cases q : x ≤ a
        · left; rw [Int.min_eq_left q]
        · right; rw [Int.min_eq_right (by omega)]; exact List.mem_cons_self
      · exact .inr (List.mem_cons_of_mem _ h)
    · rcases List.mem_cons.mp hy with rfl | h
      · omega
      · exact h3 y h
theorem maxL_spec {ns : List Int} {m : Int} (h : maxL ns = some m) : m ∈ ns ∧ ∀ y ∈ ns, y ≤ m := by
  cases ns with
  | nil => cases h
  | cons x r =>
    cases h
    obtain ⟨h1, h2, h3⟩ := foldl_max r x
    refine ⟨?_, fun y hy => ?_⟩
    · rcases h1 with q | q
      · rw [q]; exact List.mem_cons_self
      · exact List.mem_cons_of_mem _ q
    · rcases List.mem_cons.mp hy with rfl | q
      · exact h2
      · exact h3 y q
theorem minL_spec {ns : List Int} {m : Int} (h : minL ns = some m) : m ∈ ns ∧ ∀ y ∈ ns, m ≤ y := by
  cases ns with
  | nil => cases h
  | cons x r =>
    cases h
    obtain ⟨h1, h2, h3⟩ := foldl_min r x
    refine ⟨?_, fun y hy => ?_⟩
    · rcases h1 with q | q
      · rw [q]; exact List.mem_cons_self
      · exact List.mem_cons_of_mem _ q
    · rcases List.mem_cons.mp hy with rfl | q
      · exact h2
      · exact h3 y q
def dMaxL : D → Option D
  | .lst xs => ((asInts xs).bind maxL).map .int
  | _ => none
def dMinL : D → Option D
  | .lst xs => ((asInts xs).bind minL).map .int
  | _ => none
theorem b_max1 (hc : c.hot = false := by first | rfl | assumption) : BCl c (.builtin "max") (on1 dMaxL) := fun X W z => ⟨_, cr_max (z.calm hc), r1 fun F H x dx d Q s h e a => by
  cases h <;> simp only [dMaxL] at e <;> try cases e
  rename_i h1 r1 l1
  obtain ⟨m, hm, rfl⟩ := Option.map_eq_some_iff.mp e
  obtain ⟨ns, hb, hm⟩ := Option.bind_eq_some_iff.mp hm
  obtain ⟨rfl, _⟩ := ints_of r1 hb
  obtain ⟨k1, k2⟩ := maxL_spec hm
  refine ⟨_, ns, rfl, .inl (same_rd s h1), List.length_pos_of_mem k1, fun m' g1 g2 => ?_⟩
  have : m' = m := Int.le_antisymm (k2 _ g1) (g2 _ k1)
  rw [this]
  exact a.here s (.int _)⟩
theorem b_min1 (hc : c.hot = false := by first | rfl | assumption) : BCl c (.builtin "min") (on1 dMinL) := fun X W z => ⟨_, cr_min (z.calm hc), r1 fun F H x dx d Q s h e a => by
  cases h <;> simp only [dMinL] at e <;> try cases e
  rename_i h1 r1 l1
  obtain ⟨m, hm, rfl⟩ := Option.map_eq_some_iff.mp e
  obtain ⟨ns, hb, hm⟩ := Option.bind_eq_some_iff.mp hm
  obtain ⟨rfl, _⟩ := ints_of r1 hb
  obtain ⟨k1, k2⟩ := minL_spec hm
  refine ⟨_, ns, rfl, .inl (same_rd s h1), List.length_pos_of_mem k1, fun m' g1 g2 => ?_⟩
  have : m' = m := Int.le_antisymm (g2 _ k1) (k2 _ g1)
  rw [this]
  exact a.here s (.int _)⟩
/-! str of a number, list of a thing -/
def showI (i : Int) : Cs := (Str.ofString (toString i)).cps.toList
def dStrI : D → Option D
  | .int i => if i.natAbs.log2 < 1920 ∧ okS (showI i) then some (.str (showI i)) else none
  | _ => none
def dList : D → Option D
  | .lst xs => some (.lst xs)
  | .tup xs => some (.lst xs)
  | .str cs => some (.lst (cs.map fun n => .str [n]))
  | _ => none
theorem b_list (hc : c.hot = false := by first | rfl | assumption) : BCl c (.type "list") (on1 dList) := fun X W z => ⟨_, CallR.or call_list_of (call_list_str' (z.calm hc)), r1 fun F H x dx d Q s h e a => by
  cases h <;> simp only [dList] at e <;> try cases e
  · rename_i cs hok
    refine .inr ⟨cs, rfl, by rw [sz_eq]; exact hok.1, fun l hl => after_lst (ds := cs.map fun n => D.str [n]) s a hl ?_ (by rw [List.length_map]; exact hok.1)⟩
    have := dns_strs (K := c.K) (mg := c.mg) (F := F) (cs := cs.map fun n => [n]) fun x hx => by
      obtain ⟨n, hn, rfl⟩ := List.mem_map.mp hx
      exact okS_one (hok.2 _ hn)
    rw [show cs.map (fun n => D.str [n]) = (cs.map fun n => [n]).map D.str by rw [List.map_map]; rfl, show cs.map (fun n => V.str (toS [n])) = ((cs.map fun n => [n]).map toS).map V.str by rw [List.map_map, List.map_map]; rfl]
    exact this
  · rename_i h1 r1 l1
    exact .inl ⟨_, _, rfl, .inr (by rw [z.K]; exact same_t s h1), fun l hl => after_lst s a hl r1 l1⟩
  · rename_i h1 r1 l1
    exact .inl ⟨_, _, rfl, .inl (.inl (same_rd s h1)), fun l hl => after_lst s a hl r1 l1⟩⟩
/-! a < b < c as a test -/
theorem et_chain {op op' : CmpOp} {r r' : D → D → Option D} {a b d : Expr} {f g k : M D} {pos : Pos} (h : COp c op r) (h' : COp c op' r') (ha : ED c a f) (hb : ED c b g) (hd : ED c d k) (hl : lastMarks [op, op'] [b, d] = false := by rfl) :
    ET c (.Compare a [op, op'] [b, d] pos) (tbM (chM r r' f g k)) := fun G X W z => by
  obtain ⟨rV, o, ok⟩ := h X W z
  obtain ⟨rV', o', ok'⟩ := h' X W z
  refine pt_imp (pt_chain o o' (ha G X W z) (hb G X W z) (hd G X W z) hl) fun σ H Q h => tbM_test h fun {Q} ⟨F, ρ, R, q⟩ => ?_
  refine tG_bind R q fun F1 H1 ρ1 x dx s1 R1 rx q1 => ?_
  refine tG_bind R1 q1 fun F2 H2 ρ2 y dy s2 R2 ry q2 => ?_
  unfold bnd lift at q2
  cases e : r dx dy with
  | none => simp only [e] at q2; exact q2.elim
  | some dv =>
    simp only [e] at q2
    cases dv <;> try exact q2.elim
    rename_i kb
    refine ok F2 H2 x y dx dy _ _ R2.fh (rx.mono s2) ry e fun v3 F3 H3 ex rv => ?_
    cases rv
    refine ⟨kb, rfl, ?_⟩
    have R3 := R2.ext ex
    have q3 := Post.mono ex.ff q2
    cases kb with
    | false => rw [if_neg Bool.false_ne_true]; exact q3 _ F3 H3 (Same.refl _) R3 (.bl _)
    | true =>
      rw [if_pos rfl]
      refine tG_bind (f := fun w => lift (r' dy w)) R3 q3 fun F4 H4 ρ4 w dw s4 R4 rw4 q4 => ?_
      obtain ⟨d', e4, af⟩ := q4.lift R4
      exact ok' F4 H4 y w dy dw d' Q R4.fh (ry.mono (ex.ff.trans s4)) rw4 e4 af
end
/-! what simp knows -/
@[simp] theorem dSortedA_str (cs : Cs) : dSortedA (.str cs) = if cs.length < 64 then some (.lst ((sortN cs).map fun n => .str [n])) else none := nrfl rfl
@[simp] theorem dSortedA_lst (xs : List D) : dSortedA (.lst xs) = dSorted (.lst xs) := nrfl rfl
@[simp] theorem dList_lst (xs : List D) : dList (.lst xs) = some (.lst xs) := nrfl rfl
@[simp] theorem dList_tup (xs : List D) : dList (.tup xs) = some (.lst xs) := nrfl rfl
@[simp] theorem dList_str (cs : Cs) : dList (.str cs) = some (.lst (cs.map fun n => .str [n])) := nrfl rfl
@[simp] theorem dMaxL_map {α : Type} (f : α → Int) (xs : List α) : dMaxL (.lst (xs.map fun x => D.int (f x))) = (maxL (xs.map f)).map .int := by simp [dMaxL]
@[simp] theorem dMinL_map {α : Type} (f : α → Int) (xs : List α) : dMinL (.lst (xs.map fun x => D.int (f x))) = (minL (xs.map f)).map .int := by simp [dMinL]
end DL

namespace DL
open PySem L2
/-! ### comprehensions with two loops, where the frame has nothing of its own -/
def noOwn (ρ : En) : Bool := ρ.all fun s => match s with
  | .ow _ => false
  | _ => true
theorem noOwn_of {ρ : En} (h : noOwn ρ = true) (i : Nat) (d : D) : ρ[i]? ≠ some (.ow d) := fun e => by
  have := List.all_eq_true.mp h _ (List.mem_of_getElem? e)
  cases this
theorem noOwn_vs {ρ : En} (h : noOwn ρ = true) (vs : List Nat) : noOw ρ vs = true := by
  unfold noOw
  rw [List.all_eq_true]
  intro i _
  cases e : ρ[i]? with
  | none => rfl
  | some s => cases s with
    | ow d => exact absurd e (noOwn_of h i d)
    | _ => rfl
theorem noOwn_mk {ρ : En} (h : ∀ (i : Nat) (d : D), ρ[i]? ≠ some (.ow d)) : noOwn ρ = true := by
  unfold noOwn
  rw [List.all_eq_true]
  intro s hs
  obtain ⟨i, hi⟩ := List.mem_iff_getElem?.mp hs
  cases s with
  | ow d => exact absurd hi (h i d)
  | _ => rfl
theorem noOwn_wipe {ρ : En} {vs : List Nat} (h : noOwn ρ = true) : noOwn (wipeE ρ vs) = true := noOwn_mk fun i d e => by
  by_cases hi : i ∈ vs
  · rcases wipeE_in (ρ := ρ) hi with q | q <;> rw [q] at e <;> cases e
  · rw [wipeE_out hi] at e; exact noOwn_of h i d e
/-- a target that stores plain things -/
class PuN (t : Tg) : Prop where
  pn : ∀ d ρ ρ1, t d ρ = some ρ1 → noOwn ρ = true → noOwn ρ1 = true
theorem noOwn_set {ρ : En} {i : Nat} {d : D} (h : noOwn ρ = true) : noOwn (ρ.set i (.fz d)) = true := noOwn_mk fun j e q => by
  by_cases hj : i = j
  · subst hj
    by_cases hl : i < ρ.length
    · rw [List.getElem?_set_self hl] at q; cases q
    · rw [List.getElem?_eq_none (by rw [List.length_set]; omega)] at q; cases q
  · rw [List.getElem?_set_ne hj] at q; exact noOwn_of h j e q
instance (i : Nat) : PuN (put i) := ⟨fun d ρ ρ1 e h => by obtain ⟨_, rfl⟩ := put_some e; exact noOwn_set h⟩
instance (i j : Nat) : PuN (tgT 2 (tgC (put i) (tgC (put j) tgN))) := ⟨fun d ρ ρ1 e h => by
  obtain ⟨ds, rfl, e0⟩ := tgT_some e
  obtain ⟨d1, r, ρ2, rfl, e1, e9⟩ := tgC_some e0
  obtain ⟨d2, r2, ρ3, rfl, e2, e8⟩ := tgC_some e9
  obtain rfl := tgN_some e8
  obtain ⟨_, rfl⟩ := put_some e1
  obtain ⟨_, rfl⟩ := put_some e2
  exact noOwn_set (noOwn_set h)⟩
theorem putT_in {i : Nat} {vs : List Nat} (hi : i ∈ vs) : PuT vs (put i) := ⟨fun d ρ ρ1 h e => by
  obtain ⟨hl, rfl⟩ := put_some e
  exact ⟨noOw_set h, wipe_set hi⟩⟩
theorem putT2_in {i j : Nat} {vs : List Nat} (hi : i ∈ vs) (hj : j ∈ vs) : PuT vs (tgT 2 (tgC (put i) (tgC (put j) tgN))) := ⟨fun d ρ ρ1 h e => by
  obtain ⟨ds, rfl, e0⟩ := tgT_some e
  obtain ⟨d1, r, ρ2, rfl, e1, e9⟩ := tgC_some e0
  obtain ⟨d2, r2, ρ3, rfl, e2, e8⟩ := tgC_some e9
  obtain rfl := tgN_some e8
  obtain ⟨_, rfl⟩ := put_some e1
  obtain ⟨_, rfl⟩ := put_some e2
  exact ⟨noOw_set (noOw_set h), by rw [wipe_set hj, wipe_set hi]⟩⟩
instance (i j : Nat) : PuT [i, j] (put i) := putT_in (by simp)
instance (i j : Nat) : PuT [i, j] (put j) := putT_in (by simp)
instance (i j k : Nat) : PuT [i, j, k] (put i) := putT_in (by simp)
instance (i j k : Nat) : PuT [i, j, k] (put k) := putT_in (by simp)
instance (i j k : Nat) : PuT [i, j, k] (tgT 2 (tgC (put i) (tgC (put j) tgN))) := putT2_in (by simp) (by simp)
def lc2x (vs1 : List Nat) (t : Tg) (mt : M Bool) (src1 : M (List D)) (t1 : Tg) (mt1 : M Bool) (me : M D) (ρ : En) : List D → R (List D)
  | [] => .ok []
  | d :: r => match t d ρ with
    | none => .bad
    | some ρ1 => match mt ρ1 with
      | .ok true _ => (match src1 ρ1 with
        | .ok ds1 _ => (match lcx (fun d1 => onT (t1 d1 (wipeE ρ1 vs1)) fun ρ2 => (mt1 ρ2).toR) (fun d1 => onT (t1 d1 (wipeE ρ1 vs1)) fun ρ2 => (me ρ2).toR) ds1 with
          | .ok ys => (match lc2x vs1 t mt src1 t1 mt1 me ρ r with
            | .ok zs => .ok (ys ++ zs)
            | _ => .bad)
          | _ => .bad)
        | _ => .bad)
      | .ok false _ => lc2x vs1 t mt src1 t1 mt1 me ρ r
      | _ => .bad
def lc2M (src : M (List D)) (vs vs1 : List Nat) (t : Tg) (mt : M Bool) (src1 : M (List D)) (t1 : Tg) (mt1 : M Bool) (me : M D) : M D := bnd src fun ds ρ => if noOwn ρ = true then (match lc2x vs1 t mt src1 t1 mt1 me (wipeE ρ vs) ds with
  | .ok ys => if ys.length ≤ sz then .ok (.lst ys) ρ else .bad
  | _ => .bad) else .bad
section
variable {c : Stat}
theorem lcI {X : Cx} {W : WX} (z : Cz c X W) (hc : c.hot = false) {tg iter : Expr} {scope : Scope} {src : M (List D)} (hi : EI (c.blk scope) tg iter src) : ∀ (s : Shared) (H : Hp) (C : Addr) (cl : List (Str × Addr)) (fp : List Addr), PI (X.blk s H scope (compEnvC scope cl C X.env) fp) tg iter (tGx (Walks (c.blk scope)) (c.blk scope) (fun _ _ _ _ => False) src) := fun s H C cl fp =>
    ⟨fun pins s1 σ H1 Q I ⟨G', q⟩ => (hi G' _ _ (cz_blk z hc s H scope cl C fp)).run pins s1 σ H1 Q I q⟩
theorem Rel.pa0 {G : Ent} {F H : Hp} {σ : L2.St} {ρ : En} (R : Rel c.K c.mg c.xt G F H σ ρ) (h : noOwn ρ = true) : ∀ p, p ∉ G.pa := fun p hp => by
  obtain ⟨d, q⟩ := R.pw p hp
  exact noOwn_of h _ _ q
/-- behind a part: back in the loop's own entry -/
theorem Rel.out {G : Ent} {F H F4 H4 : Hp} {σ σ' : L2.St} {ρ ρ' : En} {D' : Addr} {accV : List V} (R : Rel c.K c.mg c.xt G F H σ ρ) (hn : noOwn ρ = true) (R4 : Rel c.K c.mg c.xt ⟨F, H, owns σ ρ⟩ F4 H4 σ' ρ') (f : F D' = none) (h : H D' = some (.lst accV)) :
    Rel c.K c.mg c.xt G F4 H4 σ' ρ' ∧ H4 D' = some (.lst accV) ∧ F4 D' = none ∧ Same F F4 := by
  refine ⟨R.unnest R4 fun p hp => absurd hp (R.pa0 hn p), R4.kept D' _ h (fun _ q => by cases q) fun p hp => ?_, ?_, R4.f0⟩
  · obtain ⟨d, q1, _⟩ := mem_owns.mp hp
    exact absurd q1 (noOwn_of hn _ _)
  · rw [R4.fn D' (by show H D' ≠ none; rw [h]; exact nofun)]
    exact f
theorem lc2_imp {G : Ent} {W : WX} {vs vs1 sl sl1 : List Nat} {src src1 : M (List D)} {t t1 : Tg} {mt mt1 : M Bool} {me : M D} {g g1 : TG} [ht : PuT vs t] [hn0 : PuN t] [hm : Pu mt] [hs1 : Pu src1] [ht1 : PuT vs1 t1] [hn1 : PuN t1] [hm1 : Pu mt1] [he : Pu me] (hsl : ∀ i ∈ sl, i ∈ vs) (hsl1 : ∀ i ∈ sl1, i ∈ vs1)
    (kg : ∀ G F H σ ρ ρ' x d Q, Rel c.K c.mg c.xt G F H σ ρ → Dn c.K c.mg F x d → t d ρ = some ρ' → (∀ σ', Rel c.K c.mg c.xt G F H σ' ρ' → SlotsBut sl σ σ' → Q σ' H) → g x σ H Q)
    (kg1 : ∀ G F H σ ρ ρ' x d Q, Rel c.K c.mg c.xt G F H σ ρ → Dn c.K c.mg F x d → t1 d ρ = some ρ' → (∀ σ', Rel c.K c.mg c.xt G F H σ' ρ' → SlotsBut sl1 σ σ' → Q σ' H) → g1 x σ H Q) {scope : Scope} {σ : L2.St} {H : Hp} {Q : VK} (h : tD c G W (lc2M src vs vs1 t mt src1 t1 mt1 me) σ H Q) :
    tLc2 (tI c G W src) g (tGx (fun _ (b a : Bool) => b = a) (c.blk scope) (fun _ _ _ _ => False) mt) (tGx (Walks (c.blk scope)) (c.blk scope) (fun _ _ _ _ => False) src1) g1 (tGx (fun _ (b a : Bool) => b = a) (c.blk scope) (fun _ _ _ _ => False) mt1) (tGx (Dn c.K c.mg) (c.blk scope) (fun _ _ _ _ => False) me) vs vs1 σ H Q := by
  obtain ⟨F, ρ, R, q⟩ := h
  refine tG_bind R q fun F1 H1 ρ1 J ds s1 R1 wk q1 => ?_
  intro D' hD
  by_cases hw : noOwn ρ1 = true
  case neg => simp only [hw] at q1; exact q1.elim
  simp only [hw, if_true] at q1
  cases e : lc2x vs1 t mt src1 t1 mt1 me (wipeE ρ1 vs) ds with
  | bad => simp only [e] at q1; exact q1.elim
  | err x => simp only [e] at q1; exact q1.elim
  | ok ys =>
  simp only [e] at q1
  by_cases hz : ys.length ≤ sz
  case neg => rw [if_neg hz] at q1; exact q1.elim
  rw [if_pos hz] at q1
  have fD : F1 D' = none := R1.fh.free hD
  have hD0 : G.H0 D' = none := R1.h0_none hD
  have R0 := R1.wipe (noOwn_vs hw vs)
  have hw0 : noOwn (wipeE ρ1 vs) = true := noOwn_wipe hw
  generalize hρ0 : wipeE ρ1 vs = ρ0 at R0 hw0 e
  have hwr : wipeE ρ0 vs = ρ0 := by rw [← hρ0, wipe_wipe]
  refine ⟨fun i n H' => ∃ F' accV acc zs, Same F1 F' ∧ Rel c.K c.mg c.xt G F' H' (L2.wipe σ vs) ρ0 ∧ F' D' = none ∧ H' D' = some (.lst accV) ∧ Dns c.K c.mg F' accV acc ∧ lc2x vs1 t mt src1 t1 mt1 me ρ0 (ds.drop i) = .ok zs ∧ acc ++ zs = ys ∧ n = ds.length - i ∧ i ≤ ds.length,
    ⟨ds.length, F1, [], [], ys, Same.refl _, R0.own fD hD0 (fun i d h => absurd h (noOwn_of hw0 i d)) (.none hD), fD, upd_same, .nil, e, rfl, by simp, Nat.zero_le _⟩, ?_⟩
  rintro i n H' ⟨F', accV, acc, zs, s', R', f', h', ra, e', ez, rfl, hi'⟩
  obtain ⟨go, stop, _⟩ := wk i F' H' s' R'.fh
  by_cases hlt : i < ds.length
  case neg =>
    left
    have ei : i = ds.length := by omega
    subst ei
    refine ⟨stop (Nat.le_refl _), ?_⟩
    rw [List.drop_length] at e'
    cases e'
    rw [List.append_nil] at ez
    subst ez
    have sF : Same F' (upd F' D' (.lst accV)) := fun a o q => by rw [upd_ne (ne_of_none q f')]; exact q
    have R2 : Rel c.K c.mg c.xt G (upd F' D' (.lst accV)) H' (L2.wipe σ vs) ρ0 := by
      refine ⟨R'.f0.trans sF, fun a o q => ?_, R'.kept, R'.par, fun j d h => ?_, fun j d h => ?_, R'.ne, R'.len, R'.pw, fun b hb => ?_, R'.tbs, R'.tb.updF (.lst h'), xcMono' sF R'.xc⟩
      · by_cases ha : a = D'
        · subst ha; rw [upd_same] at q; cases q; exact h'
        · rw [upd_ne ha] at q; exact R'.fh a o q
      · obtain ⟨v, h1, h2⟩ := R'.fz j d h
        exact ⟨v, h1, h2.mono sF⟩
      · exact absurd h (noOwn_of hw0 j d)
      · have : b ≠ D' := fun zz => by subst zz; exact hb hD0
        rw [upd_ne this]; exact R'.fn b hb
    have R3 := R1.back (noOwn_vs hw vs) (s'.trans sF) R2
    rw [← hρ0, back_wipe] at R3
    exact q1 (.ref D') _ H' (s'.trans sF) R3 (.lst (.inl upd_same) (ra.mono sF) hz)
  right
  have hd : ds[i]? = some ds[i] := List.getElem?_eq_getElem hlt
  obtain ⟨hgo, hy⟩ := go _ hd
  refine ⟨hgo, fun H2 => ∃ F2 accV acc zs, Same F1 F2 ∧ Rel c.K c.mg c.xt G F2 H2 (L2.wipe σ vs) ρ0 ∧ F2 D' = none ∧ H2 D' = some (.lst accV) ∧ Dns c.K c.mg F2 accV acc ∧ lc2x vs1 t mt src1 t1 mt1 me ρ0 (ds.drop (i + 1)) = .ok zs ∧ acc ++ zs = ys, ?_, fun x H2 y => ?_⟩
  · rintro H2 ⟨F2, aV, ac, zs, q2, q3, q4, q5, q6, q7, q8⟩
    exact ⟨ds.length - (i + 1), by omega, F2, aV, ac, zs, q2, q3, q4, q5, q6, q7, q8, rfl, hlt⟩
  obtain ⟨F2, ex, rx⟩ := hy x H2 y
  have R2 := R'.ext ex
  have f2 : F2 D' = none := by rw [ex.nn D' (by rw [h']; exact nofun)]; exact f'
  have h2 : H2 D' = some (.lst accV) := ex.hh _ _ h'
  rw [List.drop_eq_getElem_cons hlt] at e'
  unfold lc2x at e'
  cases et : t ds[i] ρ0 with
  | none => simp only [et] at e'; cases e'
  | some ρ2 =>
  simp only [et] at e'
  have hw2 : noOwn ρ2 = true := hn0.pn _ _ _ et hw0
  have hwb : wipeE ρ2 vs = ρ0 := by rw [(ht.pu _ _ _ (noOwn_vs hw0 vs) et).2, hwr]
  refine kg _ F2 H2 (L2.wipe σ vs) ρ0 ρ2 x _ _ R2.nest rx et fun σ3 R3 b3 => ⟨wipe_but hsl b3, ?_⟩
  -- the block's names gone
  have up : ∀ {F4 H4 : Hp}, Rel c.K c.mg c.xt G F4 H4 σ3 ρ2 → Rel c.K c.mg c.xt G F4 H4 (L2.wipe σ vs) ρ0 := fun {F4 H4} R4 => by
    have R5 := R4.wipe (noOwn_vs hw2 vs)
    rw [wipe_but hsl b3, hwb] at R5
    exact R5
  refine ⟨⟨F2, H2, owns (L2.wipe σ vs) ρ0⟩, F2, ρ2, R3, ?_⟩
  rcases hm.pu ρ2 with ⟨b, em⟩ | ⟨x', em⟩ | em
  rotate_left
  · simp only [em] at e'; cases e'
  · simp only [em] at e'; cases e'
  rw [em]
  simp only [em] at e'
  rintro b' F4 H4 s4 R4 rfl
  obtain ⟨R4', k1, k2, k3⟩ := R2.out hw0 R4 f2 h2
  cases b' with
  | false =>
    rw [if_neg Bool.false_ne_true]
    simp only at e'
    exact ⟨F4, accV, acc, zs, (s'.trans ex.ff).trans k3, up R4', k2, k1, ra.mono (ex.ff.trans k3), e', ez⟩
  | true =>
    rw [if_pos rfl]
    simp only at e'
    refine ⟨⟨F4, H4, owns σ3 ρ2⟩, F4, ρ2, R4'.nest, ?_⟩
    rcases hs1.pu ρ2 with ⟨ds1, es⟩ | ⟨x', es⟩ | es
    rotate_left
    · simp only [es] at e'; cases e'
    · simp only [es] at e'; cases e'
    rw [es]
    simp only [es] at e'
    rintro J1 F5 H5 s5 R5 wk1
    obtain ⟨R5', k4, k5, k6⟩ := R4'.out hw2 R5 k2 k1
    -- the inner list
    generalize hT : (fun d1 => onT (t1 d1 (wipeE ρ2 vs1)) fun ρ2 => (mt1 ρ2).toR) = T at e'
    generalize hE : (fun d1 => onT (t1 d1 (wipeE ρ2 vs1)) fun ρ2 => (me ρ2).toR) = E at e'
    rcases lcx_fine (t := T) (e := E) ds1 with ⟨zi, ei⟩ | ei
    case inr => simp only [ei] at e'; cases e'
    simp only [ei] at e'
    cases er : lc2x vs1 t mt src1 t1 mt1 me ρ0 (ds.drop (i + 1)) with
    | bad => simp only [er] at e'; cases e'
    | err x => simp only [er] at e'; cases e'
    | ok zr =>
    simp only [er] at e'
    cases e'
    have hw3 : noOwn (wipeE ρ2 vs1) = true := noOwn_wipe hw2
    refine ⟨fun j k H' => ∃ F' accV' acc' zj, Same F5 F' ∧ Rel c.K c.mg c.xt G F' H' σ3 ρ2 ∧ F' D' = none ∧ H' D' = some (.lst accV') ∧ Dns c.K c.mg F' accV' acc' ∧ lcx T E (ds1.drop j) = .ok zj ∧ acc' ++ zj = acc ++ zi ∧ k = ds1.length - j ∧ j ≤ ds1.length,
      ⟨ds1.length, F5, accV, acc, zi, Same.refl _, R5', k5, k4, ra.mono ((ex.ff.trans k3).trans k6), ei, rfl, by simp, Nat.zero_le _⟩, ?_⟩
    rintro j k H' ⟨F', accV', acc', zj, s', R', f', h', ra', ej, ezj, rfl, hj'⟩
    obtain ⟨go1, stop1, _⟩ := wk1 j F' H' s' R'.fh
    have hacl : acc'.length ≤ sz := by
      have := congrArg List.length ezj
      have := congrArg List.length ez
      simp at *
      omega
    by_cases hlt1 : j < ds1.length
    case neg =>
      left
      have ej' : j = ds1.length := by omega
      subst ej'
      refine ⟨stop1 (Nat.le_refl _), ?_⟩
      rw [List.drop_length] at ej
      cases ej
      rw [List.append_nil] at ezj
      subst ezj
      exact ⟨F', accV', acc ++ zi, zr, ((((by assumption : Same F1 _).trans ex.ff).trans k3).trans k6).trans s', up R', f', h', ra', rfl, by rw [List.append_assoc]; exact ez⟩
    right
    have hd1 : ds1[j]? = some ds1[j] := List.getElem?_eq_getElem hlt1
    obtain ⟨hgo1, hy1⟩ := go1 _ hd1
    refine ⟨hgo1, fun H2 => ∃ F2 accV' acc' zj, Same F5 F2 ∧ Rel c.K c.mg c.xt G F2 H2 σ3 ρ2 ∧ F2 D' = none ∧ H2 D' = some (.lst accV') ∧ Dns c.K c.mg F2 accV' acc' ∧ lcx T E (ds1.drop (j + 1)) = .ok zj ∧ acc' ++ zj = acc ++ zi, ?_, fun x1 H6 y1 => ?_⟩
    · rintro H2 ⟨F2, aV, ac, zj, q2, q3, q4, q5, q6, q7, q8⟩
      exact ⟨ds1.length - (j + 1), by omega, F2, aV, ac, zj, q2, q3, q4, q5, q6, q7, q8, rfl, hlt1⟩
    obtain ⟨F6, ex6, rx6⟩ := hy1 x1 H6 y1
    have R6 := R'.ext ex6
    have f6 : F6 D' = none := by rw [ex6.nn D' (by rw [h']; exact nofun)]; exact f'
    have h6 : H6 D' = some (.lst accV') := ex6.hh _ _ h'
    rw [List.drop_eq_getElem_cons hlt1] at ej
    unfold lcx at ej
    have eT : T ds1[j] = onT (t1 ds1[j] (wipeE ρ2 vs1)) fun ρ2 => (mt1 ρ2).toR := by rw [← hT]
    have eE : E ds1[j] = onT (t1 ds1[j] (wipeE ρ2 vs1)) fun ρ2 => (me ρ2).toR := by rw [← hE]
    cases et1 : t1 ds1[j] (wipeE ρ2 vs1) with
    | none => rw [et1] at eT; rw [eT] at ej; cases ej
    | some ρ7 =>
    rw [et1, onT_some] at eT eE
    have hw7 : noOwn ρ7 = true := hn1.pn _ _ _ et1 hw3
    have R6w := R6.wipe (noOwn_vs hw2 vs1)
    have hz1 : wipeE ρ7 vs1 = wipeE ρ2 vs1 := by rw [(ht1.pu _ _ _ (noOwn_vs hw3 vs1) et1).2, wipe_wipe]
    refine kg1 _ F6 H6 (L2.wipe σ3 vs1) (wipeE ρ2 vs1) ρ7 x1 _ _ R6w.nest rx6 et1 fun σ7 R7 b7 => ⟨wipe_but hsl1 b7, ?_⟩
    -- the inner names as they were
    have up1 : ∀ {F8 H8 : Hp}, Same F6 F8 → Rel c.K c.mg c.xt G F8 H8 σ7 ρ7 → Rel c.K c.mg c.xt G F8 H8 σ3 ρ2 := fun {F8 H8} s8 R8 => by
      have R9 := R8.wipe (noOwn_vs hw7 vs1)
      rw [wipe_but hsl1 b7, hz1] at R9
      have := R6.back (noOwn_vs hw2 vs1) s8 R9
      rw [back_wipe] at this
      exact this
    refine ⟨⟨F6, H6, owns (L2.wipe σ3 vs1) (wipeE ρ2 vs1)⟩, F6, ρ7, R7, ?_⟩
    rcases hm1.pu ρ7 with ⟨b, em1⟩ | ⟨x', em1⟩ | em1
    rotate_left
    · rw [em1] at eT; rw [eT] at ej; cases ej
    · rw [em1] at eT; rw [eT] at ej; cases ej
    rw [em1] at eT ⊢
    rw [eT] at ej
    rintro b' F8 H8 s8 R8 rfl
    obtain ⟨R8', p1, p2, p3⟩ := R6w.out hw3 R8 f6 h6
    cases b' with
    | false =>
      rw [if_neg Bool.false_ne_true]
      exact ⟨F8, accV', acc', zj, (s'.trans ex6.ff).trans p3, up1 p3 R8', p2, p1, ra'.mono (ex6.ff.trans p3), ej, ezj⟩
    | true =>
      rw [if_pos rfl]
      refine ⟨⟨F8, H8, owns σ7 ρ7⟩, F8, ρ7, R8'.nest, ?_⟩
      rcases he.pu ρ7 with ⟨yd, ee⟩ | ⟨x', ee⟩ | ee
      rotate_left
      · rw [ee] at eE; simp only [Out.toR_ok, eE] at ej; cases ej
      · rw [ee] at eE; simp only [Out.toR_ok, eE] at ej; cases ej
      rw [ee] at eE ⊢
      simp only [Out.toR_ok, eE] at ej
      intro yv F9 H9 s9 R9 ry
      obtain ⟨R9', p4, p5, p6⟩ := R8'.out hw7 R9 p2 p1
      cases er2 : lcx T E (ds1.drop (j + 1)) with
      | bad => simp only [er2] at ej; cases ej
      | err x => simp only [er2] at ej; cases ej
      | ok zj2 =>
      simp only [er2] at ej
      cases ej
      have hacl2 : acc'.length < sz := by
        have := congrArg List.length ezj
        have := congrArg List.length ez
        simp at *
        omega
      have hacc := ra'.length
      refine ⟨accV', p4, by rw [sz_eq]; omega, F9, accV' ++ [yv], acc' ++ [yd], zj2, (((s'.trans ex6.ff).trans p3).trans p6), (up1 (p3.trans p6) R9').own p5 hD0 (fun i d h => absurd h (noOwn_of hw2 i d)) (.lst p4), p5, upd_same, (ra'.mono ((ex6.ff.trans p3).trans p6)).snoc ry, rfl, by simpa using ezj⟩
end
end DL

namespace DL
open PySem L2
section
variable {c : Stat}
/-! ### x, y = a, b by way of a pair -/
theorem SlAt.new {G : Ent} {F H : Hp} {σ : L2.St} {ρ : En} {v : V} {s : Sl} {p : Addr} {o : HO} (h : SlAt c G F H σ ρ v s) (hp : H p = none) : SlAt c G F (upd H p o) σ ρ v s := by
  cases s with
  | un => exact h
  | xc _ => exact h
  | fz d => exact h
  | ow d =>
    obtain ⟨a, rfl, ow, no⟩ := h
    have hne : a ≠ p := fun e => ow.at_.some (by rw [e]; exact hp)
    exact ⟨a, rfl, ⟨ow.nf, ow.nh, ow.at_.mono (Same.refl _) fun u q => by rw [upd_ne hne]; exact q⟩, no⟩
theorem pg_lc {i : Nat} {x : Str} {pos : Pos} {X : Cx} {W : WX} (z : Cz c X W) (h : Lc c i x) : PG X (.Name x pos) (gName i) := by
  refine pg_name (by rw [z.N]; exact z.nd) (by rw [z.N]; exact h.1) ?_ ?_
  · show L2.Loc X.env.scope x
    rw [z.sc]; exact h.2.imp (fun k => k) (fun k => k.1)
  · rcases h.2 with k | k
    · exact .inr (by rw [z.sc]; exact k)
    · exact .inl (z.fnc x k.2)
theorem es_parT {i j : Nat} {x y : Str} {a b : Expr} {f g : M Sl} {px py pt pt2 pos : Pos} {kt k2 : Nat} (hx : Lc c i x) (hy : Lc c j y) (ha : EV c a f) (hb : EV c b g)
    (hw : ∀ X W, Cz c X W → swappedStores [.Tuple [.Name x px, .Name y py] kt pt] (.Tuple [a, b] k2 pt2) X.env = pure none) (h1 : ∀ env, swapsWithSole [.Tuple [.Name x px, .Name y py] kt pt] (.Tuple [a, b] k2 pt2) pos.line env = pure false := by intro _; rfl)
    (hs : ∀ env, starEach [a, b] env = [(false, eval a env), (false, eval b env)] := by intro _; rfl) (hs2 : ∀ env, starEach [b] env = [(false, eval b env)] := by intro _; rfl) (hc : c.hot = false := by first | rfl | assumption) : ES c (.Assign [.Tuple [.Name x px, .Name y py] kt pt] (.Tuple [a, b] k2 pt2) pos) (parV c.np i j f g) := fun G X W p z => by
  have pb : PE X b (fun σ H Q => ∃ G', tV c G' W g σ H Q) := ⟨fun pins s σ H Q I ⟨G', q⟩ => (hb G' X W z).run pins s σ H Q I q⟩
  refine ps_imp (ps_asg (pe_tup (pa_cons (ha G X W z) (pa_cons pb pa_nil (by rw [hs2]; rfl)) (by rw [hs, hs2]))) (pg_tup (z.calm hc) (pgs_cons (pg_lc z hx) (pgs_cons (pg_lc z hy) pgs_nil rfl) rfl) rfl rfl) (h1 _) (hw X W z) rfl) fun Z σ H ⟨F, ρ, R, q⟩ => ?_
  refine tV_bindS R q fun F1 H1 ρ1 v s s1 R1 rv q1 => ?_
  refine ⟨_, F1, ρ1, R1.nest, ?_⟩
  unfold bnd at q1
  cases e : g ρ1 with
  | bad => rw [e] at q1; exact q1
  | err x ρ' => rw [e] at q1; exact fun F2 H2 cls d s2 r2 x2 => q1 σ F2 H2 cls d s2 (R1.unnest r2 fun _ _ => rfl) x2
  | ok t ρ' =>
  rw [e] at q1
  intro w F2 H2 s2 R2 rw2
  have R3 := R1.unnest R2 fun _ _ => rfl
  have rv3 : SlAt c G F2 H2 σ ρ' v s := by
    cases s with
    | un => exact rv.elim
    | xc _ => exact rv.elim
    | fz d => exact rv.mono s2
    | ow d =>
      obtain ⟨a', rfl, ow, no⟩ := rv
      have hne := ow.at_.some
      have nOwn : ∀ q ∈ owns σ ρ1, q.2 ≠ a' := fun ⟨k, b'⟩ hm zz => by
        obtain ⟨d', q1', q2'⟩ := mem_owns.mp hm
        have zz : b' = a' := zz
        subst zz
        exact no k d' q1' q2'
      refine ⟨a', rfl, ⟨?_, ow.nh, ow.at_.mono' s2 fun o ht ho => R2.kept a' o ho ht nOwn⟩, fun k e' hk hq => ?_⟩
      · rw [R2.fn a' hne]; exact ow.nf
      · obtain ⟨b', h1', h2'⟩ := R2.ow k e' hk
        rw [hq] at h1'; cases h1'
        rcases h2'.nh with zz | ⟨q', qm, zz⟩
        · exact hne zz
        · exact nOwn q' qm zz
  have rw3 : SlAt c G F2 H2 σ ρ' w t := by
    cases t with
    | un => exact rw2.elim
    | xc _ => exact rw2.elim
    | fz d => exact rw2
    | ow d =>
      obtain ⟨b', rfl, ow, no⟩ := rw2
      refine ⟨b', rfl, ⟨ow.nf, ?_, ow.at_⟩, no⟩
      rcases ow.nh with zz | ⟨⟨k, y'⟩, qm, zz⟩
      · exact .inl (R1.h0_none zz)
      · have zz : y' = b' := zz
        subst zz
        obtain ⟨d', q1', q2'⟩ := mem_owns.mp qm
        obtain ⟨y2, q3', q4'⟩ := R1.ow k d' q1'
        rw [q2'] at q3'; cases q3'
        exact q4'.nh
  refine ⟨by show 2 ≤ sizeLine; rw [sz_eq]; decide, fun pp hpp => ?_⟩
  have R3' : Rel c.K c.mg c.xt G F2 (upd H2 pp (.tup [v, w])) σ ρ' := R3.own (R3.fh.free hpp) (R3.h0_none hpp) (pl := .none hpp) fun k d hk hq => by
    obtain ⟨a', h1', h2'⟩ := R3.ow k d hk
    rw [hq] at h1'; cases h1'
    exact h2'.at_.some hpp
  have rv3' := rv3.new (o := .tup [v, w]) hpp
  have rw3' := rw3.new (o := .tup [v, w]) hpp
  refine ⟨pp, [v, w], rfl, .inl (.inl upd_same), rfl, v, [w], rfl, w, [], rfl, rfl, ?_⟩
  dsimp only at q1
  cases e1 : putS c.np i s ρ' with
  | none => simp only [e1] at q1; exact q1.elim
  | some ρ2 =>
  simp only [e1] at q1
  cases e2 : putS c.np j t ρ2 with
  | none => simp only [e2] at q1; exact q1.elim
  | some ρ3 =>
  simp only [e2] at q1
  have R4 := R3'.putS p rv3' e1
  refine q1 _ F2 (upd H2 pp (.tup [v, w])) s2 (R4.putS p ?_ e2)
  obtain ⟨rfl, hl⟩ := putS_eq e1
  cases t with
  | un => exact rw3'.elim
  | xc _ => exact rw3'.elim
  | fz d => exact rw3'
  | ow d =>
    obtain ⟨b', rfl, ow, no⟩ := rw3'
    refine ⟨b', rfl, ow, fun k e' hk hq => ?_⟩
    by_cases hki : k = i
    · subst hki
      rw [List.getElem?_set_self hl] at hk
      cases hk
      have hσl : k < σ.length := by rw [R3.len]; exact hl
      rw [List.getElem?_set_self hσl] at hq
      obtain ⟨a', rfl, owa, noa⟩ := rv
      cases hq
      have hne := owa.at_.some
      have ⟨b2, hb2, owb, nob⟩ := rw2
      cases hb2
      rcases owb.nh with zz | ⟨⟨l, y'⟩, qm, zz⟩
      · exact hne zz
      · obtain ⟨d', q1', q2'⟩ := mem_owns.mp qm
        refine noa l d' q1' ?_
        rw [q2']
        exact congrArg (fun t => some (some (V.ref t))) zz
    · rw [List.getElem?_set_ne (Ne.symm hki)] at hk hq
      exact no k e' hk hq
theorem xparT (i j : Nat) {x y : Str} {a b : Expr} {f g : M Sl} {px py pt pt2 pos : Pos} {kt k2 : Nat} (ha : EV c a f) (hb : EV c b g) (hi : c.N[i]? = some x := by kernel_rfl) (hj : c.N[j]? = some y := by kernel_rfl) (hx : lcB c.sc c.raw x = true := by kernel_rfl) (hy : lcB c.sc c.raw y = true := by kernel_rfl)
    (hw : swappedStores [.Tuple [.Name x px, .Name y py] kt pt] (.Tuple [a, b] k2 pt2) (envS c.sc) = pure none := by kernel_rfl) (h1 : ∀ env, swapsWithSole [.Tuple [.Name x px, .Name y py] kt pt] (.Tuple [a, b] k2 pt2) pos.line env = pure false := by intro _; rfl)
    (hs : ∀ env, starEach [a, b] env = [(false, eval a env), (false, eval b env)] := by intro _; rfl) (hs2 : ∀ env, starEach [b] env = [(false, eval b env)] := by intro _; rfl) (hc : c.hot = false := by first | rfl | assumption) : ES c (.Assign [.Tuple [.Name x px, .Name y py] kt pt] (.Tuple [a, b] k2 pt2) pos) (parV c.np i j f g) :=
  es_parT (lc_of hi hx) (lc_of hj hy) ha hb (fun X W z => by rw [sw_env _ _ z.sc]; exact hw) h1 hs hs2
/-! ### comprehensions with two loops -/
theorem xlc2 (own : List (Str × Nat)) (vs vs1 : List Nat) {elt tg iter tg1 iter1 : Expr} {ifs ifs1 : List Expr} {scope : Scope} {sl sl1 : List Nat} {pos : Pos} {src src1 : M (List D)} {t t1 : Tg} {mt mt1 : M Bool} {me : M D} [PuT vs t] [PuN t] [Pu mt] [Pu src1] [PuT vs1 t1] [PuN t1] [Pu mt1] [Pu me]
    (hi : EI c tg iter src) (hg : EG (c.blk scope) tg sl t) (ht : ETs (c.blk scope) ifs mt) (hi1 : EI (c.blk scope) tg1 iter1 src1) (hg1 : EG (c.blk scope) tg1 sl1 t1) (ht1 : ETs (c.blk scope) ifs1 mt1) (he : ED (c.blk scope) elt me)
    (ok : blkC c.N c.sc scope own = true := by kernel_rfl) (hvs : own.map (·.2) = vs := by rfl) (hsl : (sl.all fun i => (own.map (·.2)).contains i) = true := by rfl) (hsl1 : (sl1.all fun i => vs1.contains i) = true := by rfl) (hv : (vs1.all fun i => (own.map (·.2)).contains i) = true := by rfl) (hs : ∀ env x, foldedSetIterable iter env x = pure x := by intro _ _; rfl) (hs1 : ∀ env x, foldedSetIterable iter1 env x = pure x := by intro _ _; rfl) (hc : c.hot = false := by first | rfl | assumption) :
    ED c (.ListComp elt [⟨tg, iter, ifs, 0⟩, ⟨tg1, iter1, ifs1, 0⟩] scope pos) (lc2M src vs vs1 t mt src1 t1 mt1 me) := fun G X W z => by
  subst hvs
  obtain ⟨g, pg, kg⟩ := hg
  obtain ⟨g1, pg1, kg1⟩ := hg1
  exact pe_imp (pe_lc2 (own := own) (vs1 := vs1) (z.calm hc) (by rw [z.N]; exact z.nd) (hi G X W z) (by rw [z.N, z.sc]; exact blkOk_by ok) (fun i h => List.contains_iff_mem.mp (List.all_eq_true.mp hv i h)) (fun s H C cl fp => pg _ _ (cz_blk z hc s H scope cl C fp)) (fun s H C cl fp => lcT z hc ht s H C cl fp) (fun s H C cl fp => lcI z hc hi1 s H C cl fp) (fun s H C cl fp => pg1 _ _ (cz_blk z hc s H scope cl C fp)) (fun s H C cl fp => lcT z hc ht1 s H C cl fp) (fun s H C cl fp => lcE z hc he s H C cl fp) (hs _) hs1)
    fun σ H Q h => lc2_imp (c := c) (scope := scope) (fun i h => List.contains_iff_mem.mp (List.all_eq_true.mp hsl i h)) (fun i h => List.contains_iff_mem.mp (List.all_eq_true.mp hsl1 i h)) kg kg1 h
theorem xsetLc2 (i : Nat) (own : List (Str × Nat)) (vs vs1 : List Nat) {y : Str} {py spos : Pos} {elt tg iter tg1 iter1 : Expr} {ifs ifs1 : List Expr} {scope : Scope} {sl sl1 : List Nat} {pos : Pos} {src src1 : M (List D)} {t t1 : Tg} {mt mt1 : M Bool} {me : M D} [PuT vs t] [PuN t] [Pu mt] [Pu src1] [PuT vs1 t1] [PuN t1] [Pu mt1] [Pu me]
    (hi : EI c tg iter src) (hg : EG (c.blk scope) tg sl t) (ht : ETs (c.blk scope) ifs mt) (hi1 : EI (c.blk scope) tg1 iter1 src1) (hg1 : EG (c.blk scope) tg1 sl1 t1) (ht1 : ETs (c.blk scope) ifs1 mt1) (he : ED (c.blk scope) elt me)
    (hy : c.N[i]? = some y := by kernel_rfl) (hyl : c.sc.names.lookup y = some .local := by kernel_rfl) (hl : (py.line == pos.line) = true := by rfl) (hk : c.sc.kind = .function := by rfl) (hsc : (scope.names.any fun (n, k) => n == y && (k == .local || k == .cell)) = false := by kernel_rfl)
    (ok : blkC c.N c.sc scope own = true := by kernel_rfl) (hvs : own.map (·.2) = vs := by rfl) (hsl : (sl.all fun i => (own.map (·.2)).contains i) = true := by rfl) (hsl1 : (sl1.all fun i => vs1.contains i) = true := by rfl) (hv : (vs1.all fun i => (own.map (·.2)).contains i) = true := by rfl) (hs : ∀ env x, foldedSetIterable iter env x = pure x := by intro _ _; rfl) (hs1 : ∀ env x, foldedSetIterable iter1 env x = pure x := by intro _ _; rfl) (hc : c.hot = false := by first | rfl | assumption) :
    ES c (.Assign [.Name y py] (.ListComp elt [⟨tg, iter, ifs, 0⟩, ⟨tg1, iter1, ifs1, 0⟩] scope pos) spos) (asgM (put i) (lc2M src vs vs1 t mt src1 t1 mt1 me)) := fun G X W p z => by
  subst hvs
  obtain ⟨g, pg, kg⟩ := hg
  obtain ⟨g1, pg1, kg1⟩ := hg1
  refine ps_imp (ps_setLc2 (own := own) (vs1 := vs1) (z.calm hc) (by rw [z.N]; exact z.nd) (by rw [z.N]; exact hy) (by rw [z.sc]; exact hyl) (sw_true (by rw [z.sc]; exact hk) (by rw [z.sc]; exact hyl) hl hsc) (hi G X W z) (by rw [z.N, z.sc]; exact blkOk_by ok) (fun i h => List.contains_iff_mem.mp (List.all_eq_true.mp hv i h)) (fun s H C cl fp => pg _ _ (cz_blk z hc s H scope cl C fp)) (fun s H C cl fp => lcT z hc ht s H C cl fp) (fun s H C cl fp => lcI z hc hi1 s H C cl fp) (fun s H C cl fp => pg1 _ _ (cz_blk z hc s H scope cl C fp)) (fun s H C cl fp => lcT z hc ht1 s H C cl fp) (fun s H C cl fp => lcE z hc he s H C cl fp) (hs _) hs1) fun Z σ H ⟨F, ρ, R, q⟩ => ?_
  refine lc2_imp (c := c) (scope := scope) (fun i h => List.contains_iff_mem.mp (List.all_eq_true.mp hsl i h)) (fun i h => List.contains_iff_mem.mp (List.all_eq_true.mp hsl1 i h)) kg kg1 (tG_bindS R q fun F1 H1 ρ1 x dx s1 R1 rx q1 => ?_)
  cases e : put i dx ρ1 with
  | none => simp only [e] at q1; exact q1.elim
  | some ρ2 => simp only [e] at q1; exact q1 _ F1 H1 (Same.refl _) (R1.put rx e)
end
/-! what simp knows of them -/
def lc2t {τ : Type} (e : τ → R (List D)) : List τ → R (List D)
  | [] => .ok []
  | x :: r => match e x with
    | .ok ys => (match lc2t e r with
      | .ok zs => .ok (ys ++ zs)
      | _ => .bad)
    | _ => .bad
theorem lc2t_fine {τ : Type} (e : τ → R (List D)) (xs : List τ) : (∃ ys, lc2t e xs = .ok ys) ∨ lc2t e xs = .bad := by
  induction xs with
  | nil => exact .inl ⟨[], rfl⟩
  | cons x r ih =>
    unfold lc2t
    rcases ih with ⟨ys, h⟩ | h
    · rw [h]; cases e x with
      | ok zs => exact .inl ⟨_, rfl⟩
      | _ => exact .inr rfl
    · rw [h]; cases e x with
      | ok zs => exact .inr rfl
      | _ => exact .inr rfl
def noErr {α : Type} (r : R α) : R α := match r with
  | .ok a => .ok a
  | _ => .bad
@[simp] theorem noErr_ok {α : Type} (a : α) : noErr (R.ok a) = .ok a := nrfl rfl
@[simp] theorem noErr_bad {α : Type} : noErr (R.bad : R α) = .bad := nrfl rfl
@[simp] theorem noErr_ite {α : Type} (p : Prop) [Decidable p] (x y : R α) : noErr (if p then x else y) = if p then noErr x else noErr y := by split <;> rfl
theorem lc2x_eq {vs1 : List Nat} {t : Tg} {mt : M Bool} {src1 : M (List D)} {t1 : Tg} {mt1 : M Bool} {me : M D} {ρ : En} : ∀ ds : List D, lc2x vs1 t mt src1 t1 mt1 me ρ ds = lc2t (fun d => onT (t d ρ) fun ρ1 => (noErr (mt ρ1).toR).bind fun b => if b = true then (noErr (src1 ρ1).toR).bind fun ds1 => lcx (fun d1 => onT (t1 d1 (wipeE ρ1 vs1)) fun ρ2 => (mt1 ρ2).toR) (fun d1 => onT (t1 d1 (wipeE ρ1 vs1)) fun ρ2 => (me ρ2).toR) ds1 else .ok []) ds
  | [] => rfl
  | d :: r => by
    unfold lc2x lc2t
    rw [lc2x_eq r]
    generalize hz : lc2t _ r = z
    have hf := lc2t_fine (fun d => onT (t d ρ) fun ρ1 => (noErr (mt ρ1).toR).bind fun b => if b = true then (noErr (src1 ρ1).toR).bind fun ds1 => lcx (fun d1 => onT (t1 d1 (wipeE ρ1 vs1)) fun ρ2 => (mt1 ρ2).toR) (fun d1 => onT (t1 d1 (wipeE ρ1 vs1)) fun ρ2 => (me ρ2).toR) ds1 else .ok []) r
    rw [hz] at hf
    clear hz
    cases t d ρ with
    | none => rfl
    | some ρ1 =>
      rw [onT_some]
      dsimp only
      cases mt ρ1 with
      | bad => rfl
      | err x ρ' => rfl
      | ok b ρ' =>
        cases b with
        | false => rcases hf with ⟨ys, rfl⟩ | rfl <;> rfl
        | true =>
          simp only [Out.toR_ok, noErr_ok, R.bind_ok, if_true]
          cases src1 ρ1 with
          | bad => rfl
          | err x ρ' => rfl
          | ok ds1 ρ' =>
            simp only [Out.toR_ok, noErr_ok, R.bind_ok] <;> rfl
@[simp] theorem at_lc2M (src : M (List D)) (vs vs1 : List Nat) (t : Tg) (mt : M Bool) (src1 : M (List D)) (t1 : Tg) (mt1 : M Bool) (me : M D) (ρ : En) : lc2M src vs vs1 t mt src1 t1 mt1 me ρ = (src ρ).b fun ds ρ1 => if noOwn ρ1 = true then (lc2t (fun d => onT (t d (wipeE ρ1 vs)) fun ρ2 => (noErr (mt ρ2).toR).bind fun b => if b = true then (noErr (src1 ρ2).toR).bind fun ds1 => lcx (fun d1 => onT (t1 d1 (wipeE ρ2 vs1)) fun ρ3 => (mt1 ρ3).toR) (fun d1 => onT (t1 d1 (wipeE ρ2 vs1)) fun ρ3 => (me ρ3).toR) ds1 else .ok []) ds).k ρ1 fun ys => if ys.length ≤ sz then .ok (.lst ys) ρ1 else .bad else .bad := by
  unfold lc2M
  rw [at_bnd]; congr 1; funext ds ρ1
  split
  · rw [lc2x_eq]
    generalize hz : lc2t _ ds = z
    have key := @lc2t_fine
    rcases key _ ds with ⟨ys, h⟩ | h
    · rw [h] at hz; subst hz; rfl
    · rw [h] at hz; subst hz; rfl
  · rfl
instance (src : M (List D)) (vs vs1 : List Nat) (t : Tg) (mt : M Bool) (src1 : M (List D)) (t1 : Tg) (mt1 : M Bool) (me : M D) [hs : Pu src] : Pu (lc2M src vs vs1 t mt src1 t1 mt1 me) := ⟨fun ρ => by rw [at_lc2M]; exact pu_b (hs.pu ρ) fun x => pu_if (pu_k fun d => pu_if (pu_ok _ ρ) (pu_bad ρ)) (pu_bad ρ)⟩
@[simp] theorem lc2t_map {τ υ : Type} (g : υ → τ) (e : τ → R (List D)) : ∀ xs : List υ, lc2t e (xs.map g) = lc2t (fun x => e (g x)) xs
  | [] => rfl
  | x :: r => by
    simp only [List.map_cons]
    unfold lc2t
    rw [lc2t_map g e r]
@[simp] theorem lc2t_ok {τ : Type} (e : τ → List D) : ∀ xs : List τ, lc2t (fun x => .ok (e x)) xs = .ok (xs.flatMap e)
  | [] => rfl
  | x :: r => by
    unfold lc2t
    rw [lc2t_ok e r]
    simp
def owS : Sl → Bool
  | .ow _ => false
  | _ => true
@[simp] theorem owS_un : owS .un = true := nrfl rfl
@[simp] theorem owS_fz (d : D) : owS (.fz d) = true := nrfl rfl
@[simp] theorem owS_ow (d : D) : owS (.ow d) = false := nrfl rfl
@[simp] theorem noOwn_nil : noOwn [] = true := nrfl rfl
@[simp] theorem noOwn_cons (s : Sl) (ρ : En) : noOwn (s :: ρ) = (owS s && noOwn ρ) := by
  unfold noOwn owS
  cases s <;> rfl
end DL

namespace DL
open PySem L2
/-! ### what repr writes is a text -/
def Tx (n : Nat) (s : Str) : Prop := s.cps.toList.length ≤ n ∧ ∀ c ∈ s.cps.toList, c < 0x110000
theorem Tx.mono {n m : Nat} {s : Str} (h : Tx n s) (hm : n ≤ m) : Tx m s := ⟨Nat.le_trans h.1 hm, h.2⟩
theorem Tx.ofS (s : String) {n : Nat} (h : s.toList.length ≤ n) : Tx n (Str.ofString s) := by
  rw [Str.ofString_eq_toList]
  refine ⟨by simpa using h, fun c hc => ?_⟩
  simp only [List.toList_toArray, List.mem_map] at hc
  obtain ⟨ch, _, rfl⟩ := hc
  have := ch.valid
  show ch.val.toNat < _
  rcases this with q | ⟨_, q⟩
  · exact Nat.lt_trans q (by decide)
  · exact q
theorem Tx.app {n m : Nat} {a b : Str} (h : Tx n a) (k : Tx m b) : Tx (n + m) (a ++ b) := by
  have e : (a ++ b).cps.toList = a.cps.toList ++ b.cps.toList := by
    show (a.cps ++ b.cps).toList = _
    simp
  refine ⟨by rw [e, List.length_append]; have := h.1; have := k.1; omega, fun c hc => ?_⟩
  rw [e] at hc
  rcases List.mem_append.mp hc with q | q
  · exact h.2 c q
  · exact k.2 c q
theorem reprChar_small {q c : Nat} (hq : q < 0x110000) (hc : c < 0x110000) : ∀ n ∈ Builtin.Str.reprChar q c, n < 0x110000 := by
  have hex : ∀ w, ∀ n ∈ List.replicate (w - ((Nat.toDigits 16 c).map Char.toNat).length) 48 ++ (Nat.toDigits 16 c).map Char.toNat, n < 0x110000 := fun w n hn => by
    rcases List.mem_append.mp hn with h | h
    · rw [(List.mem_replicate.mp h).2]; decide
    · obtain ⟨ch, _, rfl⟩ := List.mem_map.mp h
      have := ch.valid
      show ch.val.toNat < _
      rcases this with q | ⟨_, q⟩
      · exact Nat.lt_trans q (by decide)
      · exact q
  intro n hn
  unfold Builtin.Str.reprChar at hn
  dsimp only at hn
  split at hn
  · simp at hn; rcases hn with rfl | rfl
    · decide
    · exact hc
  split at hn
  · simp at hn; rcases hn with rfl | rfl <;> decide
  split at hn
  · simp at hn; rcases hn with rfl | rfl <;> decide
  split at hn
  · simp at hn; rcases hn with rfl | rfl <;> decide
  split at hn
  · simp at hn; subst hn; exact hc
  split at hn
  · rcases List.mem_append.mp hn with h | h
    · simp at h; rcases h with rfl | rfl <;> decide
    · exact hex 2 n h
  split at hn
  · rcases List.mem_append.mp hn with h | h
    · simp at h; rcases h with rfl | rfl <;> decide
    · exact hex 4 n h
  · rcases List.mem_append.mp hn with h | h
    · simp at h; rcases h with rfl | rfl <;> decide
    · exact hex 8 n h
theorem foldl_repr_small {q : Nat} (hq : q < 0x110000) : ∀ (l : List Nat) (acc : Array Nat), (∀ c ∈ l, c < 0x110000) → (∀ n ∈ acc.toList, n < 0x110000) → ∀ n ∈ (l.foldl (fun out c => out ++ (Builtin.Str.reprChar q c).toArray) acc).toList, n < 0x110000
  | [], acc, _, h => h
  | c :: r, acc, hl, h => by
    rw [List.foldl_cons]
    refine foldl_repr_small hq r _ (fun d hd => hl d (List.mem_cons_of_mem _ hd)) fun n hn => ?_
    rw [Array.toList_append, List.toList_toArray] at hn
    rcases List.mem_append.mp hn with k | k
    · exact h n k
    · exact reprChar_small hq (hl c List.mem_cons_self) n k
theorem tx_repr {cs : Cs} (h : ∀ c ∈ cs, c < 0x110000) : Tx (10 * cs.length + 2) (reprText (toS cs)) := by
  have hq : reprQuote (toS cs) < 0x110000 := by unfold reprQuote; split <;> decide
  refine ⟨?_, ?_⟩
  · have := StrLaws.reprText_len (toS cs) (fun c hc => by
      have := h c (by simpa [toS] using hc)
      exact Nat.lt_trans this (by decide))
    rw [toS_length] at this
    show (reprText (toS cs)).cps.toList.length ≤ _
    rw [Array.length_toList]; exact this
  · intro c hc
    unfold reprText at hc
    rw [Array.toList_push] at hc
    rcases List.mem_append.mp hc with k | k
    · rw [← Array.foldl_toList] at k
      refine foldl_repr_small hq _ _ (fun c hc => h c (by simpa [toS] using hc)) (fun n hn => ?_) c k
      simp at hn; rw [hn]; exact hq
    · simp at k; rw [k]; exact hq
mutual
def wt : D → Nat
  | .non => 4 | .bl _ => 5 | .int i => (toString i).toList.length | .str cs => 10 * cs.length + 2
  | .tup xs => 4 + wts xs | .lst xs => 4 + wts xs
  | .dct _ => 0 | .ins _ _ => 0 | .exc _ _ => 0 | .gl _ => 0 | .ty _ => 0
def wts : List D → Nat
  | [] => 0
  | x :: xs => wt x + 2 + wts xs
end
mutual
def fine : D → Bool
  | .non => true | .bl _ => true | .int i => decide (i.natAbs.log2 < 1920) | .str cs => cs.all fun c => decide (c < 0x110000)
  | .tup xs => fines xs | .lst xs => fines xs
  | .dct _ => false | .ins _ _ => false | .exc _ _ => false | .gl _ => false | .ty _ => false
def fines : List D → Bool
  | [] => true
  | x :: xs => fine x && fines xs
end
theorem tx_from : ∀ (ts : List Str) (ns : List Nat) (k : Nat) (acc : Str) (n : Nat), Tx n acc → ts.length = ns.length → (∀ i (h : i < ts.length) (h' : i < ns.length), Tx ns[i] ts[i]) → Tx (n + (ns.map (· + 2)).sum) (textFrom k acc ts)
  | [], [], k, acc, n, h, _, _ => by simpa [textFrom] using h
  | t :: ts, m :: ns, k, acc, n, h, hl, hi => by
    have h0 : Tx m t := hi 0 (by simp) (by simp)
    have hsep : Tx 2 (Str.ofString (if k > 0 then ", " else "")) := Tx.ofS _ (by split <;> decide)
    have h1 := (h.app hsep).app h0
    have ih := tx_from ts ns (k + 1) _ _ h1 (by simpa using hl) fun i a b => by
      have := hi (i + 1) (by simpa using a) (by simpa using b)
      simpa using this
    unfold textFrom
    refine ih.mono ?_
    simp only [List.map_cons, List.sum_cons]
    omega
theorem tx_join : ∀ (ts : List Str) (ns : List Nat), ts.length = ns.length → (∀ i (h : i < ts.length) (h' : i < ns.length), Tx ns[i] ts[i]) → Tx ((ns.map (· + 2)).sum) (Str.join (Str.ofString ", ") ts)
  | [], [], _, _ => ⟨by simp [Str.join, Str.empty], by simp [Str.join, Str.empty]⟩
  | [t], [m], _, hi => by
    have h0 : Tx m t := hi 0 (by simp) (by simp)
    show Tx _ t
    exact h0.mono (by simp)
  | t :: u :: ts, m :: k :: ns, hl, hi => by
    have h0 : Tx m t := hi 0 (by simp) (by simp)
    have ih := tx_join (u :: ts) (k :: ns) (by simpa using hl) fun i a b => by
      have := hi (i + 1) (by simpa using a) (by simpa using b)
      simpa using this
    have hsep : Tx 2 (Str.ofString ", ") := Tx.ofS _ (by decide)
    show Tx _ (t ++ Str.ofString ", " ++ Str.join (Str.ofString ", ") (u :: ts))
    refine ((h0.app hsep).app ih).mono ?_
    simp only [List.map_cons, List.sum_cons]
    omega

theorem wts_sum : ∀ xs : List D, wts xs = ((xs.map wt).map (· + 2)).sum
  | [] => by simp [wts]
  | x :: r => by simp [wts, wts_sum r]
theorem shownAll_len : ∀ xs : List D, (PyData.shownAll (pys xs)).length = xs.length
  | [] => by simp [pys, PyData.shownAll]
  | x :: r => by simp [pys, PyData.shownAll, shownAll_len r]
mutual
theorem tx_shown : ∀ d : D, isP d = true → fine d = true → Tx (wt d) (py d).shown
  | .non, _, _ => by simp only [py, PyData.shown, wt]; exact Tx.ofS _ (by decide)
  | .bl b, _, _ => by
    simp only [py, PyData.shown, wt]
    cases b
    · exact Tx.ofS _ (by decide)
    · exact Tx.ofS _ (by decide)
  | .int i, _, _ => by simp only [py, PyData.shown, wt]; exact Tx.ofS _ (Nat.le_refl _)
  | .str cs, _, h => by
    simp only [py, PyData.shown, wt]
    refine tx_repr fun c hc => ?_
    have := h
    simp only [fine, List.all_eq_true, decide_eq_true_eq] at this
    exact this c hc
  | .lst xs, h, k => by
    simp only [py, PyData.shown, wt]
    have h1 := tx_all xs (by simpa [isP] using h) (by simpa [fine] using k)
    have h2 : Tx 1 (Str.ofString "[") := Tx.ofS _ (by decide)
    have h3 : Tx 1 (Str.ofString "]") := Tx.ofS _ (by decide)
    have h4 := tx_from (PyData.shownAll (pys xs)) (xs.map wt) 0 _ _ h2 (by rw [shownAll_len, List.length_map]) h1
    refine (h4.app h3).mono ?_
    rw [wts_sum]; omega
  | .tup xs, h, k => by
    simp only [py, PyData.shown, wt]
    have h1 := tx_all xs (by simpa [isP] using h) (by simpa [fine] using k)
    have h2 : Tx 1 (Str.ofString "(") := Tx.ofS _ (by decide)
    have h3 : Tx 2 (Str.ofString (if (PyData.shownAll (pys xs)).length == 1 then ",)" else ")")) := Tx.ofS _ (by split <;> decide)
    have h4 := tx_join (PyData.shownAll (pys xs)) (xs.map wt) (by rw [shownAll_len, List.length_map]) h1
    refine ((h2.app h4).app h3).mono ?_
    rw [wts_sum]; omega
  | .dct _, h, _ => by simp [isP] at h
  | .ins _ _, h, _ => by simp [isP] at h
  | .exc _ _, h, _ => by simp [isP] at h
  | .gl _, h, _ => by simp [isP] at h
  | .ty _, h, _ => by simp [isP] at h
theorem tx_all : ∀ xs : List D, isPs xs = true → fines xs = true → ∀ i (h : i < (PyData.shownAll (pys xs)).length) (h' : i < (xs.map wt).length), Tx (xs.map wt)[i] (PyData.shownAll (pys xs))[i]
  | [], _, _, i, _, h' => by simp at h'
  | x :: r, h, k, i, h1, h2 => by
    have h' : isP x = true ∧ isPs r = true := by simpa [isPs] using h
    have k' : fine x = true ∧ fines r = true := by simpa [fines] using k
    have e1 := tx_shown x h'.1 k'.1
    have e2 := tx_all r h'.2 k'.2
    cases i with
    | zero => simpa [pys, PyData.shownAll] using e1
    | succ i =>
      have := e2 i (by simpa [pys, PyData.shownAll] using h1) (by simpa using h2)
      simpa [pys, PyData.shownAll] using this
end
mutual
theorem showable_fine : ∀ d : D, isP d = true → fine d = true → (py d).showable = true
  | .non, _, _ => by simp [py, PyData.showable]
  | .bl b, _, _ => by simp [py, PyData.showable]
  | .int i, _, h => by simpa [py, PyData.showable, fine] using h
  | .str cs, _, _ => by simp [py, PyData.showable]
  | .lst xs, h, k => by simp only [py, PyData.showable]; exact showable_fines xs (by simpa [isP] using h) (by simpa [fine] using k)
  | .tup xs, h, k => by simp only [py, PyData.showable]; exact showable_fines xs (by simpa [isP] using h) (by simpa [fine] using k)
  | .dct _, h, _ => by simp [isP] at h
  | .ins _ _, h, _ => by simp [isP] at h
  | .exc _ _, h, _ => by simp [isP] at h
  | .gl _, h, _ => by simp [isP] at h
  | .ty _, h, _ => by simp [isP] at h
theorem showable_fines : ∀ xs : List D, isPs xs = true → fines xs = true → PyData.showableAll (pys xs) = true
  | [], _, _ => by simp [pys, PyData.showableAll]
  | x :: r, h, k => by
    have h' : isP x = true ∧ isPs r = true := by simpa [isPs] using h
    have k' : fine x = true ∧ fines r = true := by simpa [fines] using k
    simp only [pys, PyData.showableAll, showable_fine x h'.1 k'.1, showable_fines r h'.2 k'.2, Bool.and_self]
end
theorem rep_ok {d : D} (h1 : isP d = true) (h2 : dep d ≤ 60) (h3 : fine d = true) (h4 : wt d ≤ 16777216) : dRepr d = some (.str (shw d)) := by
  have ht := tx_shown d h1 h3
  unfold dRepr
  rw [if_pos]
  unfold okRep
  have h5 : okS (shw d) := ⟨Nat.le_trans ht.1 (by rw [sz_val]; exact h4), ht.2⟩
  rw [h1, decide_eq_true h2, showable_fine d h1 h3, decide_eq_true h5]
  rfl
/-! bounds for lists of one kind -/
theorem fines_all : ∀ xs : List D, fines xs = xs.all fine
  | [] => by simp [fines]
  | x :: r => by simp [fines, fines_all r]
@[simp] theorem fine_lst (xs : List D) : fine (.lst xs) = xs.all fine := by simp [fine, fines_all]
@[simp] theorem fine_tup (xs : List D) : fine (.tup xs) = xs.all fine := by simp [fine, fines_all]
@[simp] theorem fine_bl (b : Bool) : fine (.bl b) = true := by simp [fine]
@[simp] theorem fine_non : fine .non = true := by simp [fine]
@[simp] theorem fine_str (cs : Cs) : fine (.str cs) = cs.all fun c => decide (c < 0x110000) := by simp [fine]
theorem wts_le {k : Nat} : ∀ {xs : List D}, (∀ x ∈ xs, wt x ≤ k) → wts xs ≤ xs.length * (k + 2)
  | [], _ => by simp [wts]
  | x :: r, h => by
    have h1 := h x List.mem_cons_self
    have h2 := wts_le (xs := r) fun y hy => h y (List.mem_cons_of_mem _ hy)
    simp only [wts, List.length_cons, Nat.succ_mul]
    omega
theorem wt_lst {k n : Nat} {xs : List D} (h : ∀ x ∈ xs, wt x ≤ k) (hn : xs.length ≤ n) : wt (.lst xs) ≤ 4 + n * (k + 2) := by
  have h1 := wts_le h
  have h2 := Nat.mul_le_mul_right (k + 2) hn
  simp only [wt]; omega
theorem wt_tup {k n : Nat} {xs : List D} (h : ∀ x ∈ xs, wt x ≤ k) (hn : xs.length ≤ n) : wt (.tup xs) ≤ 4 + n * (k + 2) := by
  have h1 := wts_le h
  have h2 := Nat.mul_le_mul_right (k + 2) hn
  simp only [wt]; omega
theorem dep_lst {k : Nat} {xs : List D} (h : ∀ x ∈ xs, dep x ≤ k) : dep (.lst xs) ≤ k + 1 := by
  have := deps_le h
  simp only [dep]; omega
theorem dep_tup {k : Nat} {xs : List D} (h : ∀ x ∈ xs, dep x ≤ k) : dep (.tup xs) ≤ k + 1 := by
  have := deps_le h
  simp only [dep]; omega
/-- small data that can be written -/
structure Rp (k n : Nat) (d : D) : Prop where
  p : isP d = true
  f : fine d = true
  e : dep d ≤ k
  w : wt d ≤ n
theorem Rp.mono {k n k' n' : Nat} {d : D} (h : Rp k n d) (hk : k ≤ k') (hn : n ≤ n') : Rp k' n' d := ⟨h.p, h.f, Nat.le_trans h.e hk, Nat.le_trans h.w hn⟩
theorem Rp.lst {k n m : Nat} {xs : List D} (h : ∀ x ∈ xs, Rp k n x) (hm : xs.length ≤ m) : Rp (k + 1) (4 + m * (n + 2)) (.lst xs) :=
  ⟨by rw [isP_lst, allP, List.all_eq_true]; exact fun x hx => (h x hx).p, by rw [fine_lst, List.all_eq_true]; exact fun x hx => (h x hx).f, dep_lst fun x hx => (h x hx).e, wt_lst (fun x hx => (h x hx).w) hm⟩
theorem Rp.tup {k n m : Nat} {xs : List D} (h : ∀ x ∈ xs, Rp k n x) (hm : xs.length ≤ m) : Rp (k + 1) (4 + m * (n + 2)) (.tup xs) :=
  ⟨by rw [isP_tup, allP, List.all_eq_true]; exact fun x hx => (h x hx).p, by rw [fine_tup, List.all_eq_true]; exact fun x hx => (h x hx).f, dep_tup fun x hx => (h x hx).e, wt_tup (fun x hx => (h x hx).w) hm⟩
theorem Rp.str {m : Nat} {cs : Cs} (h : ∀ c ∈ cs, c < 0x110000) (hm : cs.length ≤ m) : Rp 0 (10 * m + 2) (.str cs) :=
  ⟨by simp, by rw [fine_str, List.all_eq_true]; exact fun c hc => decide_eq_true (h c hc), by simp, by simp only [wt]; omega⟩
theorem Rp.bl (b : Bool) : Rp 0 5 (.bl b) := ⟨by simp, by simp, by simp, by simp [wt]⟩
theorem Rp.non : Rp 0 4 .non := ⟨by simp, by simp, by simp, by simp [wt]⟩
theorem Rp.rep {k n : Nat} {d : D} (h : Rp k n d) (hk : k ≤ 60) (hn : n ≤ 16777216) : dRepr d = some (.str (shw d)) := rep_ok h.p (Nat.le_trans h.e hk) h.f (Nat.le_trans h.w hn)
/-! more of what simp knows -/
@[simp high] theorem dEq_nat (a b : Nat) : dEq (.int (a : Int)) (.int (b : Int)) = some (.bl (decide (a = b))) := by
  rw [dEq_int]; congr 2; simp only [decide_eq_decide]; omega
@[simp high] theorem dNe_nat (a b : Nat) : dNe (.int (a : Int)) (.int (b : Int)) = some (.bl (!decide (a = b))) := by
  rw [dNe_int]; congr 3; simp only [decide_eq_decide]; omega
@[simp high] theorem dLt_nat (a b : Nat) : dLt (.int (a : Int)) (.int (b : Int)) = some (.bl (decide (a < b))) := by
  rw [dLt_int]; congr 2; simp only [decide_eq_decide]; omega
@[simp high] theorem dLe_nat (a b : Nat) : dLe (.int (a : Int)) (.int (b : Int)) = some (.bl (decide (a ≤ b))) := by
  rw [dLe_int]; congr 2; simp only [decide_eq_decide]; omega
@[simp high] theorem dGt_nat (a b : Nat) : dGt (.int (a : Int)) (.int (b : Int)) = some (.bl (decide (b < a))) := by
  rw [dGt_int]; congr 2; simp only [decide_eq_decide]; omega
@[simp high] theorem dGe_nat (a b : Nat) : dGe (.int (a : Int)) (.int (b : Int)) = some (.bl (decide (b ≤ a))) := by
  rw [dGe_int]; congr 2; simp only [decide_eq_decide]; omega
@[simp] theorem ite_ok_bl (p : Prop) [Decidable p] (a b : Bool) : (if p then R.ok (D.bl a) else R.ok (D.bl b)) = R.ok (D.bl (if p then a else b)) := by split <;> rfl
@[simp] theorem ite_okB (p : Prop) [Decidable p] (a b : Bool) : (if p then R.ok a else R.ok b) = R.ok (if p then a else b) := by split <;> rfl
@[simp] theorem dEq_nil (xs : List D) : dEq (.lst xs) (.lst []) = if allP xs = true then some (.bl xs.isEmpty) else none := by
  unfold dEq
  have : dep (.lst []) = 1 := by simp [dep, deps]
  have e : deq (.lst xs) (.lst []) = xs.isEmpty := by cases xs <;> simp
  have h1 : min (dep (.lst xs)) 1 ≤ 64 := by omega
  rw [this, e, decide_eq_true h1, isP_lst, isP_lst]
  simp
end DL

namespace DL
open PySem L2
section
variable {c : Stat}
/-! ### x, y, z = a, b, d -/
def par3F (i j l : Nat) : List D → M Fl := fun ds ρ => match ds with
  | [a, b, d] => (match put i a ρ with
    | some ρ1 => (match put j b ρ1 with
      | some ρ2 => (match put l d ρ2 with
        | some ρ3 => .ok .nx ρ3
        | none => .bad)
      | none => .bad)
    | none => .bad)
  | _ => .bad
def par3M (i j l : Nat) (f : M (List D)) : M Fl := bnd f (par3F i j l)
theorem par3_at {G : Ent} {W : WX} {F H : Hp} {σ : L2.St} {ρ : En} {Z : Ends} {i j l : Nat} {vs : List V} {ds : List D} (R : Rel c.K c.mg c.xt G F H σ ρ) (rv : Dns c.K c.mg F vs ds)
    (q : PostS c G W F (par3F i j l ds ρ) Z) : ∃ u v w, vs = [u, v, w] ∧ Z.nx (((σ.set i (some u)).set j (some v)).set l (some w)) H := by
  match vs, ds, rv, q with
  | [u, v, w], [a, b, d], .cons ra (.cons rb (.cons rd .nil)), q =>
    refine ⟨u, v, w, rfl, ?_⟩
    dsimp only [par3F] at q
    cases e1 : put i a ρ with
    | none => rw [e1] at q; exact q.elim
    | some ρ1 =>
    rw [e1] at q
    dsimp only at q
    cases e2 : put j b ρ1 with
    | none => rw [e2] at q; exact q.elim
    | some ρ2 =>
    rw [e2] at q
    dsimp only at q
    cases e3 : put l d ρ2 with
    | none => rw [e3] at q; exact q.elim
    | some ρ3 =>
    rw [e3] at q
    exact q _ F H (Same.refl _) (((R.put ra e1).put rb e2).put rd e3)
  | [], [], .nil, q => exact q.elim
  | [_], [_], .cons _ .nil, q => exact q.elim
  | [_, _], [_, _], .cons _ (.cons _ .nil), q => exact q.elim
  | _ :: _ :: _ :: _ :: _, _ :: _ :: _ :: _ :: _, .cons _ (.cons _ (.cons _ (.cons _ _))), q => exact q.elim
theorem xpar3 (i j l : Nat) {x y z : Str} {a b d : Expr} {f : M (List D)} {px py pz pt pt2 pos : Pos} {kt k2 : Nat} (ha : EA c [a, b, d] f) (hi : c.N[i]? = some x := by kernel_rfl) (hj : c.N[j]? = some y := by kernel_rfl) (hl : c.N[l]? = some z := by kernel_rfl) (hij : (i == j) = false := by rfl) (hil : (i == l) = false := by rfl) (hjl : (j == l) = false := by rfl)
    (hx : c.sc.names.lookup x = some .local := by kernel_rfl) (hy : c.sc.names.lookup y = some .local := by kernel_rfl) (hz : c.sc.names.lookup z = some .local := by kernel_rfl)
    (hw : swappedStores [.Tuple [.Name x px, .Name y py, .Name z pz] kt pt] (.Tuple [a, b, d] k2 pt2) (envS c.sc) = pure (some [x, y, z]) := by kernel_rfl) (h1 : ∀ env, swapsWithSole [.Tuple [.Name x px, .Name y py, .Name z pz] kt pt] (.Tuple [a, b, d] k2 pt2) pos.line env = pure false := by intro _; rfl) (hc : c.hot = false := by first | rfl | assumption) :
    ES c (.Assign [.Tuple [.Name x px, .Name y py, .Name z pz] kt pt] (.Tuple [a, b, d] k2 pt2) pos) (par3M i j l f) := fun G X W p zz => by
  refine ps_imp (ps_par3 (zz.calm hc) (by rw [zz.N]; exact zz.nd) (by rw [zz.N]; exact hi) (by rw [zz.N]; exact hj) (by rw [zz.N]; exact hl) (by simpa using hij) (by simpa using hil) (by simpa using hjl) (by rw [zz.sc]; exact hx) (by rw [zz.sc]; exact hy) (by rw [zz.sc]; exact hz) (ha G X W zz) (by rw [sw_env _ _ zz.sc]; exact hw) (h1 _)) fun Z σ H ⟨F, ρ, R, q⟩ => ?_
  exact tG_bindS R q fun F1 H1 ρ1 vs ds s1 R1 rv q1 => par3_at R1 rv q1
theorem xpar3T (i j l : Nat) {x y z : Str} {a b d : Expr} {f : M (List D)} {px py pz pt pt2 pos : Pos} {kt k2 : Nat} (ha : EA c [a, b, d] f) (hi : c.N[i]? = some x := by kernel_rfl) (hj : c.N[j]? = some y := by kernel_rfl) (hl : c.N[l]? = some z := by kernel_rfl)
    (hx : lcB c.sc c.raw x = true := by kernel_rfl) (hy : lcB c.sc c.raw y = true := by kernel_rfl) (hz : lcB c.sc c.raw z = true := by kernel_rfl)
    (hw : swappedStores [.Tuple [.Name x px, .Name y py, .Name z pz] kt pt] (.Tuple [a, b, d] k2 pt2) (envS c.sc) = pure none := by kernel_rfl) (h1 : ∀ env, swapsWithSole [.Tuple [.Name x px, .Name y py, .Name z pz] kt pt] (.Tuple [a, b, d] k2 pt2) pos.line env = pure false := by intro _; rfl) (hc : c.hot = false := by first | rfl | assumption) :
    ES c (.Assign [.Tuple [.Name x px, .Name y py, .Name z pz] kt pt] (.Tuple [a, b, d] k2 pt2) pos) (par3M i j l f) := fun G X W p zz => by
  refine ps_imp (ps_asg (pe_tup (ha G X W zz)) (pg_tup (zz.calm hc) (pgs_cons (pg_lc zz (lc_of hi hx)) (pgs_cons (pg_lc zz (lc_of hj hy)) (pgs_cons (pg_lc zz (lc_of hl hz)) pgs_nil rfl) rfl) rfl) rfl rfl) (h1 _) (by rw [sw_env _ _ zz.sc]; exact hw) rfl) fun Z σ H ⟨F, ρ, R, q⟩ => ?_
  refine tG_bindS R q fun F1 H1 ρ1 vs ds s1 R1 rv q1 => ?_
  have hlen : vs.length = 3 := by
    obtain ⟨u, v, w, e, _⟩ := par3_at R1 rv q1
    rw [e]; rfl
  refine ⟨by rw [hlen, sz_eq]; decide, fun pp hpp => ?_⟩
  have R2 : Rel c.K c.mg c.xt G F1 (upd H1 pp (.tup vs)) σ ρ1 := R1.own (R1.fh.free hpp) (R1.h0_none hpp) (pl := .none hpp) fun k d hk hq => by
    obtain ⟨a', h1', h2'⟩ := R1.ow k d hk
    rw [hq] at h1'; cases h1'
    exact h2'.at_.some hpp
  obtain ⟨u, v, w, e, q2⟩ := par3_at R2 rv q1
  subst e
  exact ⟨pp, [u, v, w], rfl, .inl (.inl upd_same), rfl, u, [v, w], rfl, v, [w], rfl, w, [], rfl, rfl, q2⟩
end
def par3O (i j l : Nat) (ds : List D) (ρ : En) : Option En := match ds with
  | [a, b, d] => ((put i a ρ).bind (put j b)).bind (put l d)
  | _ => none
@[simp] theorem par3O_ok (i j l : Nat) (a b d : D) (ρ : En) : par3O i j l [a, b, d] ρ = ((put i a ρ).bind (put j b)).bind (put l d) := nrfl rfl
@[simp] theorem at_par3M (i j l : Nat) (f : M (List D)) (ρ : En) : par3M i j l f ρ = (f ρ).b fun ds ρ1 => asgO (par3O i j l ds ρ1) := by
  unfold par3M
  rw [at_bnd]; congr 1; funext ds ρ1
  match ds with
  | [a, b, d] =>
    dsimp only [par3O, par3F]
    cases put i a ρ1 with
    | none => rfl
    | some ρ2 =>
      dsimp only [Option.bind_some]
      cases put j b ρ2 with
      | none => rfl
      | some ρ3 =>
        dsimp only [Option.bind_some]
        cases put l d ρ3 <;> rfl
  | [] => rfl
  | [_] => rfl
  | [_, _] => rfl
  | _ :: _ :: _ :: _ :: _ => rfl
end DL

namespace DL
open PySem L2 PyProof.Rows
/-! ### len(o), o of a class with its own __len__ -/
section
variable {c : Stat}
def rLenI (C : Addr) (sp : Sp) : List V → Hp → VK → Prop := fun xs H Q => ∃ a dx fs, xs = [.ref a] ∧ H a = some (.ins C dx fs) ∧ sp [.ref a] H (fun v H1 => ∃ n : Int, v = .int n ∧ 0 ≤ n ∧ n < 2 ^ 62 ∧ Q (.int n) H1) E0
theorem call_lenI {X : Cx} {k : Nat} {C f : Addr} {fd : FuncData} {ps : List Str} {sp : Sp} (kc : Cls X.K C) (mt : Meth X.K C (Str.ofString "__len__") f) (F : FnG X.prog X.w X.K X.mg X.base k f fd ps sp) (hr : Room (k + 1) X.A) (hgd : X.A.guards = some []) (hb : Binds X.K fd ps []) : CallR X (.builtin "len") (rLenI C sp) := by
  intro pins s σ H xs us Q I r ⟨a, dx, fs, ey, ea, q⟩
  subst ey
  obtain ⟨u, rfl, rx⟩ := vals1 r
  cases rx
  obtain ⟨mA, O, _⟩ := ins_get I.hok ea
  obtain ⟨od, J, _⟩ := O.look
  obtain ⟨m, Fr⟩ := I.fr
  have hl := F.len _ _ _ _ q
  have b := hb s [.ref a] I.kIn (by rw [List.append_nil]; simpa using hl)
  rw [List.append_nil] at b
  refine PySem.W.len_K Fr I.mod.kin J mt.at_ mt.fn (wpAny_call (codeAny_mono (F.run X.A.in1 X.stack s H ⟨[.ref a], []⟩ [.ref a] [.ref a] _ E0 hr.in1 hgd I.env0.in1 b (.cons rfl .nil) q) fun r s' hq => ?_))
  have z := CR.end_ (X := X.nox) (I.wish _) (fun pins H s e s' I c => (passL (X := X.nox) pins σ H s e s' I c)) hq
  cases r with
  | error er => exact z.elim
  | ok fl =>
    cases fl with
    | ret u =>
      obtain ⟨v, H', I3, rv, n, rfl, h0, h1, q3⟩ := I.after hq
      obtain ⟨t, rfl⟩ := rv
      refine ⟨⟨h0, by omega⟩, ?_⟩
      exact ⟨.int n, H', I3.tok _, ⟨_, rfl⟩, q3⟩
    | next => exact False.elim hq
    | brk => exact False.elim hq
    | cont => exact False.elim hq
def lenI (cl : String) (g : List D → OutF) (o : M D) : M D := bnd o fun x ρ => if isIns cl x then (match g [x] with
  | .ok (.int n) _ => if 0 ≤ n ∧ n < 1000000 then .ok (.int n) ρ else .bad
  | _ => .bad) else .bad
theorem xlenI {k : Nat} {cl : String} {g : List D → OutF} {o : Expr} {fo : M D} {p pos : Pos} (me : MetD c.toBase k cl "__len__" [] g) (hm : c.mg "len" = none) (ho : ED c o fo) (hk : Nat.ble (k + 1) c.k = true := by rfl) (hg : c.sc.names.lookup ("len" : Str) = some .globalImplicit := by kernel_rfl)
    (h1 : ∀ env, starEach [o] env = [(false, eval o env)] := by intro _; rfl) (hc : c.hot = false := by first | rfl | assumption) : ED c (.Call (.Name "len" p) [o] [] pos) (lenI cl g fo) := fun G X W z => by
  obtain ⟨C, f, fd, ps, kc, mt, F, bi⟩ := me.ex
  have F' : FnG X.prog X.w X.K X.mg X.base k f fd ps (spF c.toBase [] g) := by rw [z.P, z.w, z.K, z.mg, z.base]; exact F
  have oo : CallR X (.builtin "len") (rLenI C (spF c.toBase [] g)) := call_lenI (by rw [z.K]; exact kc.c) (by rw [z.K]; exact mt) F' ((z.cold hc).mono (Nat.le_of_ble_eq_true hk)) z.gd (by rw [z.K]; exact bi)
  refine pe_imp (pe_callB oo (Gn.gl hg z) (by rw [z.mg]; exact hm) bt_len (pa_cons (ho G X W z) pa_nil (h1 _)) (by decide) (by decide) (h1 _) rfl) fun σ H Q ⟨F0, ρ, R, q⟩ => ?_
  refine tG_bind R q fun F1 H1 ρ1 x dx s1 R1 rx q1 => ?_
  split at q1
  case isFalse => exact q1.elim
  rename_i hc
  obtain ⟨ad, C', dx', vs', fs', rfl, rfl, g1, hh, r1⟩ := isIns_of hc rx
  have := kc.same g1
  subst this
  refine ⟨_, _, _, rfl, R1.fh _ _ hh, F1, [.ins cl fs'], R1.fh, args_pure (.cons rx .nil) R1.tb, ?_⟩
  cases e : g [.ins cl fs'] with
  | bad => simp only [e] at q1; exact q1
  | oko d es => simp only [e] at q1; exact q1.elim
  | err x es => simp only [e] at q1; exact q1.elim
  | ok d es =>
    simp only [e] at q1
    cases d <;> try exact q1.elim
    rename_i n
    dsimp only at q1
    split at q1
    case isFalse => exact q1.elim
    rename_i hn
    intro v F' H' f rv
    cases rv
    exact ⟨_, rfl, hn.1, by omega, q1 _ F' H' f.ff (R1.fin f) (.int _)⟩
end
def rL : OutF → R D
  | .ok (.int n) _ => if 0 ≤ n ∧ n < 1000000 then .ok (.int n) else .bad
  | _ => .bad
@[simp] theorem at_lenI (cl : String) (g : List D → OutF) (o : M D) (ρ : En) : lenI cl g o ρ = (o ρ).b fun x ρ1 => if isIns cl x then (rL (g [x])).k ρ1 fun d => .ok d ρ1 else .bad := by
  unfold lenI
  rw [at_bnd]; congr 1; funext x ρ1
  split
  · cases g [x] with
    | ok d es =>
      cases d with
      | int n => dsimp only [rL]; split <;> rfl
      | _ => rfl
    | _ => rfl
  · rfl
instance (cl : String) (g : List D → OutF) (o : M D) [h : Pu o] : Pu (lenI cl g o) := ⟨fun ρ => by rw [at_lenI]; exact pu_b (h.pu ρ) fun x => pu_if (pu_k fun d => pu_ok _ ρ) (pu_bad ρ)⟩
end DL

namespace DL
open PySem L2 PyProof.Rows
/-! ### x = [..], x the frame's own -/
section
variable {c : Stat}
def ownC : D → M Sl
  | .lst ys => ret (.ow (.lst ys))
  | _ => fun _ => .bad
def lcV (src : M (List D)) (vs : List Nat) (t : Tg) (mt : M Bool) (me : M D) : M Sl := bnd (lcM src vs t mt me) ownC
def lcO (vs : List Nat) (t : Tg) (mt : M Bool) (me : M D) (ds : List D) : M Sl := fun ρ => if noOw ρ vs then (match lcL vs t mt me ds [] (wipeE ρ vs) with
  | .ok ys ρ' => .ok (.ow (.lst ys)) (back ρ ρ' vs)
  | _ => .bad) else .bad
theorem lcV_eq {src : M (List D)} {vs : List Nat} {t : Tg} {mt : M Bool} {me : M D} : lcV src vs t mt me = bnd src fun ds => lcO vs t mt me ds := by
  funext ρ
  unfold lcV lcM bnd
  cases e : src ρ with
  | bad => simp only [e]
  | err x ρ' => simp only [e]
  | ok ds ρ' =>
    simp only [e, lcO]
    by_cases hw : noOw ρ' vs = true
    · simp only [hw, if_true]
      cases e2 : lcL vs t mt me ds [] (wipeE ρ' vs) with
      | bad => simp only [e2]
      | err x ρ2 => simp only [e2]
      | ok ys ρ2 => simp only [e2]; rfl
    · simp only [hw]; rfl
theorem lcV_imp {G : Ent} {W : WX} {vs sl : List Nat} {src : M (List D)} {t : Tg} {mt : M Bool} {me : M D} {g : TG} (hsl : ∀ i ∈ sl, i ∈ vs)
    (kg : ∀ G F H σ ρ ρ' x d Q, Rel c.K c.mg c.xt G F H σ ρ → Dn c.K c.mg F x d → t d ρ = some ρ' → (∀ σ', Rel c.K c.mg c.xt G F H σ' ρ' → SlotsBut sl σ σ' → Q σ' H) → g x σ H Q) {scope : Scope} {σ : L2.St} {H : Hp} {Q : VK} (h : tV c G W (lcV src vs t mt me) σ H Q) :
    tLc (tI c G W src) g (tGx (fun _ (b a : Bool) => b = a) (c.blk scope) (fun _ _ _ _ => False) mt) (tGx (Dn c.K c.mg) (c.blk scope) (fun _ _ _ _ => False) me) vs σ H Q := by
  obtain ⟨F, ρ, R, q⟩ := h
  rw [show lcV src vs t mt me = bnd src fun ds => lcO vs t mt me ds from lcV_eq] at q
  refine tG_bindV R q fun F1 H1 ρ1 J ds s1 R1 wk q1 => ?_
  unfold lcO at q1
  intro D' hD
  by_cases hw : noOw ρ1 vs = true
  case neg => simp only [hw] at q1; exact q1.elim
  simp only [hw, if_true] at q1
  cases e : lcL vs t mt me ds [] (wipeE ρ1 vs) with
  | bad => simp only [e] at q1; exact q1.elim
  | err x ρ' => simp only [e] at q1; exact q1.elim
  | ok ys ρf =>
  simp only [e] at q1
  have fD : F1 D' = none := R1.fh.free hD
  have hD0 : G.H0 D' = none := R1.h0_none hD
  have nD : ∀ (i : Nat) (d : D), (wipeE ρ1 vs)[i]? = some (.ow d) → (L2.wipe σ vs)[i]? ≠ some (some (.ref D')) := fun i d h q => by
    obtain ⟨a, h1, h2⟩ := (R1.wipe hw).ow i d h
    rw [q] at h1
    cases h1
    exact h2.at_.some hD
  have hz : ds.length ≤ sz := (wk 0 F1 H1 (Same.refl _) R1.fh).2.2
  refine ⟨fun i n H' => ∃ F' ρ' accV acc, Same F1 F' ∧ Rel c.K c.mg c.xt G F' H' (L2.wipe σ vs) ρ' ∧ F' D' = none ∧ H' D' = some (.lst accV) ∧ Dns c.K c.mg F' accV acc ∧ (∀ (j : Nat) (d : D), ρ'[j]? = some (.ow d) → (L2.wipe σ vs)[j]? ≠ some (some (.ref D'))) ∧
    acc.length ≤ i ∧ lcL vs t mt me (ds.drop i) acc ρ' = .ok ys ρf ∧ n = ds.length - i ∧ i ≤ ds.length,
    ⟨ds.length, F1, wipeE ρ1 vs, [], [], Same.refl _, (R1.wipe hw).own fD hD0 nD (.none hD), fD, upd_same, .nil, nD, Nat.le_refl _, e, by simp, Nat.zero_le _⟩, ?_⟩
  rintro i n H' ⟨F', ρ', accV, acc, s', R', f', h', ra, n', hl, e', rfl, hi'⟩
  obtain ⟨go, stop, _⟩ := wk i F' H' s' R'.fh
  by_cases hlt : i < ds.length
  case neg =>
    left
    have ei : i = ds.length := by omega
    subst ei
    refine ⟨stop (Nat.le_refl _), ?_⟩
    rw [List.drop_length] at e'
    cases e'
    have hl1 : ρ1.length = ρf.length := by rw [← R1.len, ← R'.len, wipe_length]
    refine q1 (.ref D') F' H' s' (R1.back hw s' R') ⟨D', rfl, ⟨f', .inl hD0, accV, h', ra⟩, fun i d q => ?_⟩
    by_cases hi : i ∈ vs
    · rw [back_in hl1 hi] at q
      exact absurd q (noOw_of hw hi d)
    · rw [back_out hi] at q
      have := n' i d q
      rwa [wipe_out hi] at this
  right
  have hd : ds[i]? = some ds[i] := List.getElem?_eq_getElem hlt
  obtain ⟨hgo, hy⟩ := go _ hd
  refine ⟨hgo, fun H2 => ∃ F2 ρ2 accV acc, Same F1 F2 ∧ Rel c.K c.mg c.xt G F2 H2 (L2.wipe σ vs) ρ2 ∧ F2 D' = none ∧ H2 D' = some (.lst accV) ∧ Dns c.K c.mg F2 accV acc ∧ (∀ (j : Nat) (d : D), ρ2[j]? = some (.ow d) → (L2.wipe σ vs)[j]? ≠ some (some (.ref D'))) ∧
    acc.length ≤ i + 1 ∧ lcL vs t mt me (ds.drop (i + 1)) acc ρ2 = .ok ys ρf, ?_, fun x H2 y => ?_⟩
  · rintro H2 ⟨F2, ρ2, aV, ac, q2, q3, q4, q5, q6, q7, q8, q9⟩
    exact ⟨ds.length - (i + 1), by omega, F2, ρ2, aV, ac, q2, q3, q4, q5, q6, q7, q8, q9, rfl, hlt⟩
  obtain ⟨F2, ex, rx⟩ := hy x H2 y
  have R2 := R'.ext ex
  have f2 : F2 D' = none := by rw [ex.nn D' (by rw [h']; exact nofun)]; exact f'
  have h2 : H2 D' = some (.lst accV) := ex.hh _ _ h'
  rw [List.drop_eq_getElem_cons hlt] at e'
  unfold lcL at e'
  cases et : t ds[i] ρ' with
  | none => simp only [et] at e'; cases e'
  | some ρ2 =>
  simp only [et] at e'
  -- the turn's own entry
  have Rn := R2.nest
  refine kg _ F2 H2 (L2.wipe σ vs) ρ' ρ2 x _ _ Rn rx et fun σ3 R3 b3 => ⟨wipe_but hsl b3, ?_⟩
  have nOwn : ∀ p ∈ owns (L2.wipe σ vs) ρ', p.2 ≠ D' := fun ⟨j, a⟩ hm zz => by
    obtain ⟨d, q1, q2⟩ := mem_owns.mp hm
    have zz : a = D' := zz
    subst zz
    exact n' j d q1 q2
  have lf : ∀ {F4 H4 : Hp} {ρ4 : En}, Rel c.K c.mg c.xt ⟨F2, H2, owns (L2.wipe σ vs) ρ'⟩ F4 H4 σ3 ρ4 → H4 D' = some (.lst accV) ∧ F4 D' = none ∧ Same F2 F4 := fun {F4 H4 ρ4} R4 => by
    refine ⟨R4.kept D' _ h2 (fun _ q => by cases q) nOwn, ?_, R4.f0⟩
    rw [R4.fn D' (by show H2 D' ≠ none; rw [h2]; exact nofun)]
    exact f2
  have nD4 : ∀ {F4 H4 : Hp} {ρ4 : En}, Rel c.K c.mg c.xt ⟨F2, H2, owns (L2.wipe σ vs) ρ'⟩ F4 H4 σ3 ρ4 → ∀ (j : Nat) (d : D), ρ4[j]? = some (.ow d) → σ3[j]? ≠ some (some (.ref D')) := fun {F4 H4 ρ4} R4 j d hj q => by
    obtain ⟨a, h1, h3⟩ := R4.ow j d hj
    rw [q] at h1
    cases h1
    rcases h3.nh with zz | ⟨p, pm, zz⟩
    · have zz : H2 D' = none := zz
      rw [h2] at zz; cases zz
    · exact nOwn p pm zz
  -- back in the loop's own entry, the block's names gone
  have up : ∀ {F4 H4 : Hp} {ρ4 : En}, Rel c.K c.mg c.xt ⟨F2, H2, owns (L2.wipe σ vs) ρ'⟩ F4 H4 σ3 ρ4 → noOw ρ4 vs = true → Rel c.K c.mg c.xt G F4 H4 (L2.wipe σ vs) (wipeE ρ4 vs) ∧ ∀ (j : Nat) (d : D), (wipeE ρ4 vs)[j]? = some (.ow d) → (L2.wipe σ vs)[j]? ≠ some (some (.ref D')) := fun {F4 H4 ρ4} R4 hw4 => by
    have b4 := wipe_but hsl b3
    have R5 := R4.wipe hw4
    rw [b4] at R5
    refine ⟨R2.unnest R5 fun _ _ => rfl, fun j d hj q => ?_⟩
    by_cases hjv : j ∈ vs
    · rcases wipeE_in (ρ := ρ4) hjv with zz | zz <;> rw [zz] at hj <;> cases hj
    · rw [wipeE_out hjv] at hj
      refine nD4 R4 j d hj ?_
      rw [b3.2 j fun zz => hjv (hsl j zz)]
      exact q
  refine ⟨⟨F2, H2, owns (L2.wipe σ vs) ρ'⟩, F2, ρ2, R3, ?_⟩
  cases em : mt ρ2 with
  | bad => simp only [em] at e'; cases e'
  | err x ρ3 => simp only [em] at e'; cases e'
  | ok b ρ3 =>
  simp only [em] at e'
  rintro b' F4 H4 s4 R4 rfl
  obtain ⟨k1, k2, k3⟩ := lf R4
  cases b' with
  | false =>
    rw [if_neg Bool.false_ne_true]
    simp only at e'
    by_cases hw4 : noOw ρ3 vs = true
    case neg => rw [if_neg hw4] at e'; cases e'
    rw [if_pos hw4] at e'
    obtain ⟨R5, n5⟩ := up R4 hw4
    exact ⟨F4, wipeE ρ3 vs, accV, acc, (s'.trans ex.ff).trans k3, R5, k2, k1, ra.mono (ex.ff.trans k3), n5, by omega, e'⟩
  | true =>
    rw [if_pos rfl]
    simp only at e'
    refine ⟨⟨F2, H2, owns (L2.wipe σ vs) ρ'⟩, F4, ρ3, R4, ?_⟩
    cases ee : me ρ3 with
    | bad => simp only [ee] at e'; cases e'
    | err x ρ4 => simp only [ee] at e'; cases e'
    | ok yd ρ4 =>
    simp only [ee] at e'
    intro yv F5 H5 s5 R5 ry
    obtain ⟨k4, k5, k6⟩ := lf R5
    by_cases hw5 : noOw ρ4 vs = true
    case neg => rw [if_neg hw5] at e'; cases e'
    rw [if_pos hw5] at e'
    obtain ⟨R6, n6⟩ := up R5 hw5
    have hacc := ra.length
    refine ⟨accV, k4, by rw [sz_eq]; omega, F5, wipeE ρ4 vs, accV ++ [yv], acc ++ [yd], (s'.trans ex.ff).trans k6, R6.own k5 hD0 n6 (.lst k4), k5, upd_same, (ra.mono (ex.ff.trans k6)).snoc ry, n6, by simp; omega, e'⟩
theorem es_setLcV {i : Nat} {y : Str} {py spos : Pos} {elt tg iter : Expr} {ifs : List Expr} {scope : Scope} {own : List (Str × Nat)} {sl : List Nat} {pos : Pos} {src : M (List D)} {t : Tg} {mt : M Bool} {me : M D} (hy : c.N[i]? = some y) (hyl : c.sc.names.lookup y = some .local) (hl : (py.line == pos.line) = true) (hk : c.sc.kind = .function)
    (hsc : (scope.names.any fun (n, k) => n == y && (k == .local || k == .cell)) = false) (hi : EI c tg iter src) (ok : blkC c.N c.sc scope own = true)
    (hg : EG (c.blk scope) tg sl t) (ht : ETs (c.blk scope) ifs mt) (he : ED (c.blk scope) elt me) (hsl : ∀ i ∈ sl, i ∈ own.map (·.2)) (hs : ∀ env x, foldedSetIterable iter env x = pure x := by intro _ _; rfl) (hc : c.hot = false := by first | rfl | assumption) :
    ES c (.Assign [.Name y py] (.ListComp elt [⟨tg, iter, ifs, 0⟩] scope pos) spos) (asgV c.np i (lcV src (own.map (·.2)) t mt me)) := fun G X W p z => by
  obtain ⟨g, pg, kg⟩ := hg
  refine ps_imp (ps_setLc (own := own) (z.calm hc) (by rw [z.N]; exact z.nd) (by rw [z.N]; exact hy) (by rw [z.sc]; exact hyl) (sw_true (by rw [z.sc]; exact hk) (by rw [z.sc]; exact hyl) hl hsc) (hi G X W z) (by rw [z.N, z.sc]; exact blkOk_by ok) (fun s H C cl fp => pg _ _ (cz_blk z hc s H scope cl C fp)) (fun s H C cl fp => lcT z hc ht s H C cl fp) (fun s H C cl fp => lcE z hc he s H C cl fp) (hs _)) fun Z σ H ⟨F, ρ, R, q⟩ => ?_
  refine lcV_imp (c := c) (scope := scope) hsl kg (tV_bindS R q fun F1 H1 ρ1 v s s1 R1 rv q1 => ?_)
  cases e1 : putS c.np i s ρ1 with
  | none => simp only [e1] at q1; exact q1.elim
  | some ρ' => simp only [e1] at q1; exact q1 _ F1 H1 (Same.refl _) (R1.putS p rv e1)
theorem xsetLcV (i : Nat) (own : List (Str × Nat)) {y : Str} {py spos : Pos} {elt tg iter : Expr} {ifs : List Expr} {scope : Scope} {sl : List Nat} {pos : Pos} {src : M (List D)} {t : Tg} {mt : M Bool} {me : M D} (hi : EI c tg iter src) (hg : EG (c.blk scope) tg sl t) (ht : ETs (c.blk scope) ifs mt) (he : ED (c.blk scope) elt me)
    (hy : c.N[i]? = some y := by kernel_rfl) (hyl : c.sc.names.lookup y = some .local := by kernel_rfl) (hl : (py.line == pos.line) = true := by rfl) (hk : c.sc.kind = .function := by rfl) (hsc : (scope.names.any fun (n, k) => n == y && (k == .local || k == .cell)) = false := by kernel_rfl) (ok : blkC c.N c.sc scope own = true := by kernel_rfl) (hsl : (sl.all fun i => (own.map (·.2)).contains i) = true := by rfl) (hs : ∀ env x, foldedSetIterable iter env x = pure x := by intro _ _; rfl) (hc : c.hot = false := by first | rfl | assumption) :
    ES c (.Assign [.Name y py] (.ListComp elt [⟨tg, iter, ifs, 0⟩] scope pos) spos) (asgV c.np i (lcV src (own.map (·.2)) t mt me)) := es_setLcV hy hyl hl hk hsc hi ok hg ht he (fun i h => List.contains_iff_mem.mp (List.all_eq_true.mp hsl i h)) hs
@[simp] theorem ownC_lst (ys : List D) : ownC (.lst ys) = ret (.ow (.lst ys)) := nrfl rfl
end
end DL

namespace DL
open PySem PySem.Spec PyProof.Rows L2 PySem.Froz PySem.W
theorem kv_keys : ∀ {kvs : List (Key × V)} {vs : List (Key × Value)}, KV kvs vs → kvs.map (·.1) = vs.map (·.1) := fun {kvs vs} h => by
  unfold KV at h
  induction h with
  | nil => rfl
  | cons a _ ih => rw [List.map_cons, List.map_cons, ih, a.1]
/-! ### sorted of a dict that stays as it is, its keys texts -/
section
variable {P : Program} {w : World} {A : Around} {E : Value → Shared → Prop} {s : Shared}
theorem collect_dict {T : String} {r d : Addr} {n : Nat} {N : Nat → Value → Prop} {OK : Heap → Prop} {R : List Value → Shared → Prop} (K : KdlSrc P w T r d n N OK) (hh : A.handled = none) (hok : OK s.heap) (hn : n ≤ sizeLine)
    (h : ∀ (h' : Heap) (tk : Nat) (acc : Array Value), (∀ b o, s.heap.get? b = some o → h'.get? b = some o) → ItemsOf N acc n → R acc.toList { s with heap := h', toks := tk }) : wpAny (model P w) A (collect (.ref r)) R E s := by
  obtain ⟨hr, hd⟩ := K.there _ hok
  unfold collect
  refine wpAny_bind (wpAny_runValue (codeAny_builtin PySem.F.entry_proto_collect ?_))
  rw [Around.under_plainId PySem.F.plain_proto_collect _]
  show wpAny _ A.in1 (newList [] >>= fun l => again (.builtin "list.__iadd__" ⟨[l, .ref r], []⟩)) _ _ s
  refine wpAny_bind (wpAny_newObj_type ?_)
  refine wpAny_pure ⟨plainId_quiet PySem.F.plain_list_iadd _, codeAny_builtin PySem.F.entry_list_iadd ?_⟩
  rw [Around.under_plainId PySem.F.plain_list_iadd _]
  have hS₁ : (s.heap.push { cls := .type "list", data := .seq ([] : List Value).toArray }).get? s.heap.objs.size = some { cls := .type "list", data := .seq #[] } := Heap.get?_push_size _ rfl
  show wpAny _ A.in1 (Builtin.List.listExtendWith (.ref s.heap.objs.size) (.ref r) (.ref s.heap.objs.size)) _ _ _
  have key := kdl_extend (A := A) (s := { s with heap := s.heap.push { cls := .type "list", data := .seq ([] : List Value).toArray } })
    (R := fun (q : Result) (s' : Shared) => ∃ (h' : Heap) (tk : Nat) (acc' : Array Value) (c' : Nat), q = .ok (.ret (.ref s.heap.objs.size)) ∧ s' = { s with heap := h', toks := tk } ∧
      (∀ b o, s.heap.get? b = some o → h'.get? b = some o) ∧ h'.get? s.heap.objs.size = some { cls := .type "list", dict := none, data := .seq acc' c', slots := #[] } ∧ ItemsOf N acc' n)
    K hh (K.keep _ _ hok fun b _ o e => Heap.get?_push_of_some _ e) s.heap.objs.size (Nat.ne_of_gt hr) (Nat.ne_of_gt hd) (.ref s.heap.objs.size) 0 hS₁
    (fun h' tk acc' c' hk hS' hacc => ⟨h', tk, acc', c', rfl, rfl, fun b o e => hk b o (Nat.ne_of_lt (Heap.lt_size e)) (Heap.get?_push_of_some _ e), hS', hacc⟩) hn
  refine wpAny_mono key (fun fin s' x => ?_) fun e s' x => ?_
  · cases fin with
    | done f =>
      obtain ⟨h', tk, acc', c', e, rfl, hk, hS', hacc⟩ := x
      cases e
      show wpAny _ A (load s.heap.objs.size >>= _) _ _ _
      refine wpAny_bind (wpAny_load hS' (wpAny_pure ?_))
      exact h h' tk acc' hk hacc
    | again c₁ =>
      refine ⟨x.1, codeAny_mono x.2 fun q s₂ y => ?_⟩
      obtain ⟨h', tk, acc', c', rfl, rfl, hk, hS', hacc⟩ := y
      show wpAny _ A (load s.heap.objs.size >>= _) _ _ _
      refine wpAny_bind (wpAny_load hS' (wpAny_pure ?_))
      exact h h' tk acc' hk hacc
  · obtain ⟨_, _, _, _, e', _⟩ := x
    cases e'
theorem sorted_dict {d : Addr} {vs : List (Key × Value)} {ep : Nat} {xs : List Str} {Q : Value → Shared → Prop} (hh : A.handled = none) (lo : (d == sysModules) = false) (hm0 : s.heap.DictAt (mixKind P w) d vs ep) (hx : vs.map (·.1) = xs.map Sum.inr) (h64 : xs.length < 64)
    (hQ : ∀ s' p (out : Array Value) (c : Nat) (ys : List Str), (∀ b o, s.heap.get? b = some o → s'.heap.get? b = some o) → s'.gens = s.gens → s'.os = s.os → s.heap.get? p = none → (∀ H : Hp, HOk P w H s.heap → H p = none) →
      s'.heap.get? p = some (seqObj "list" out c) → StrsAre out.toList ys → ys.Perm xs → sortedS ys = true → Q (.ref p) s') :
    wpAny (model P w) A (call (.builtin "sorted") [.ref d]) Q E s := by
  have hvx : vs.length = xs.length := by have := congrArg List.length hx; simpa using this
  refine Calls.call_function_entry kind_sorted plain_sorted entry_sorted (args_sorted1 _) ?_
  unfold Builtin.«sorted»
  refine wpAny_bind (m := checkCount "sorted" 1 1 _) (wpAny_pure ?_)
  refine wpAny_bind (collect_dict (A := A.in1) (kdl_dict (knd := mixKind P w) (kvs := vs) (ep := ep) lo) hh hm0 (by rw [sizeLine_eq]; omega) fun h1 tk1 acc k1 it => ?_)
  have g1 : ({ s with heap := h1, toks := tk1 } : Shared).gens = s.gens := rfl
  have o1 : ({ s with heap := h1, toks := tk1 } : Shared).os = s.os := rfl
  have k1 : ∀ b o, s.heap.get? b = some o → ({ s with heap := h1, toks := tk1 } : Shared).heap.get? b = some o := k1
  generalize ({ s with heap := h1, toks := tk1 } : Shared) = s1 at g1 o1 k1
  have hvl : acc.toList.length = xs.length := by rw [Array.length_toList, it.1, hvx]
  have key : ∀ (j : Nat) v, acc.toList[j]? = some v → ∃ c u, xs[j]? = some c ∧ v = .str c u := fun j v hj => by
    obtain ⟨k, x, h1, h2⟩ := it.2 j v (by rw [← Array.getElem?_toList]; exact hj)
    have e1 : (vs.map (·.1))[j]? = some k := by rw [List.getElem?_map, h1]; rfl
    rw [hx, List.getElem?_map] at e1
    obtain ⟨c, hc, rfl⟩ := Option.map_eq_some_iff.mp e1
    obtain ⟨u, e⟩ := Value.isStrOf_shape (x := c) (v := v) h2
    exact ⟨c, u, hc, e⟩
  have hI : StrsAre acc.toList (acc.toList.map vStr) := strs_are fun v hv => by
    obtain ⟨j, hj⟩ := List.mem_iff_getElem?.mp hv
    obtain ⟨c, u, _, h2⟩ := key j v hj
    exact ⟨_, u, h2⟩
  have hm : acc.toList.map vStr = xs := by
    apply List.ext_getElem?
    intro j
    rw [List.getElem?_map]
    cases e : acc.toList[j]? with
    | none =>
      have := List.getElem?_eq_none_iff.mp e
      rw [List.getElem?_eq_none (by omega)]
      rfl
    | some v =>
      obtain ⟨c, u, h1, h2⟩ := key j v e
      rw [h1, h2]; rfl
  refine wpAny_bind (wpAny_newList ?_ (by rw [hvl, sizeLine_eq]; omega))
  have hoL : (s1.heap.push (seqObj "list" acc.toList.toArray 0)).get? s1.heap.objs.size = some (seqObj "list" acc.toList.toArray 0) := Heap.get?_push_size _ rfl
  refine wpAny_bind (wpAny_holding (wpAny_call_entry slot_list_sort ⟨_, hoL, rfl⟩ entry_list_sort (list_sort_treeK strKind_oneLt hoL hI.keysOf (fun v₁ v₂ rest e => keyKind_strs (by rw [← e]; exact hI)) (by rw [hvl]; exact h64) fun st' hp hs => ⟨_, rfl, ?_⟩) (args_list_sort _)))
  obtain ⟨ys, g2, g3, g4⟩ := sorted_out_str hI hp hs
  obtain ⟨c, hc⟩ := sortedHeap_at (vs := acc.toList) (out := (arrOf st').map (·.2)) hoL
  have hnone : s.heap.get? s1.heap.objs.size = none := by
    cases e : s.heap.get? s1.heap.objs.size with
    | none => rfl
    | some o => exact absurd (Heap.lt_size (k1 _ _ e)) (Nat.lt_irrefl _)
  refine wpAny_pure ⟨_, rfl, hQ _ s1.heap.objs.size _ c ys (fun b u e => ?_) g1 o1 hnone (fun H x => (x.kept k1).fresh (Nat.le_refl _)) hc g2 (by rw [← hm]; exact g3) g4⟩
  have q := k1 b u e
  have hlt := Heap.lt_size q
  show (sortedHeap (s1.heap.push (seqObj "list" acc.toList.toArray 0)) s1.heap.objs.size acc.toList _).get? b = some u
  rw [sortedHeap_old (Nat.ne_of_lt hlt) (by rw [size_push']; exact Nat.lt_succ_of_lt hlt)]
  exact Heap.get?_push_of_some _ q
end
section
variable {X : Cx}
def rSortedDict : List V → Hp → VK → Prop := fun xs H Q => ∃ (d : Addr) (o : Obj) (kvs : List (Key × V)) (ss : List Str), xs = [.ref d] ∧ H d = some (.frz o (.dK kvs)) ∧ kvs.map (·.1) = ss.map Sum.inr ∧ ss.length < 64 ∧ ∀ (ys : List Str) p, ys.Perm ss → sortedS ys = true → H p = none → Q (.ref p) (upd H p (.lst (ys.map V.str)))
theorem cr_sortedDict (hc : X.calm = true) : CallR X (.builtin "sorted") rSortedDict := by
  intro pins s σ H vs us Q I r ⟨d, o, kvs, ss, ex, hd, hk, h64, q⟩
  subst ex
  obtain ⟨u, rfl, rx⟩ := vals1 r
  cases rx
  obtain ⟨hs, hgd, hx, es', ep', vs, hdt, hsz, kv, hm⟩ := I.frzK hd
  refine sorted_dict (I.ok.hd hc) hs hm (by rw [← kv_keys kv]; exact hk) h64 fun s' p out c ys k g o hp hfr hg hi hperm hsr => ?_
  have hlen : (ys.map V.str).length ≤ sizeLine := by rw [List.length_map, hperm.length_eq, sizeLine_eq]; omega
  have hn : H p = none := hfr H I.hok
  have J : Inv X pins σ (upd H p (.lst (ys.map V.str))) { s with heap := s'.heap, gens := s'.gens, drawn := s'.drawn, toks := s'.toks } :=
    I.call (ch := []) (Un.laidN k hp hn) (I.hok.laidN k hn ⟨hlen, out.toList, c, vals_of_strs hi, hg⟩) (by rw [g]; exact I.bare) (fun _ z => nomatch z)
  have e : s' = { s with heap := s'.heap, gens := s'.gens, drawn := s'.drawn, toks := s'.toks } := by
    obtain ⟨_, _, _, _, _⟩ := s'
    obtain ⟨_, _, _, _, _⟩ := s
    cases o
    rfl
  rw [e]
  exact ⟨.ref p, _, J, rfl, q ys p hperm hsr hn⟩
end
section
variable {c : Stat}
def keyStrs : List (DK × D) → Option (List Cs)
  | [] => some []
  | (.s x, _) :: r => (keyStrs r).map (x :: ·)
  | (.i _, _) :: _ => none
theorem dkv_strs {K : PySem.W.Frag} {mg : Str → Option Value} {F : Hp} : ∀ {kvs : List (Key × V)} {kds : List (DK × D)} {ss : List Cs}, Dkv K mg F kvs kds → keyStrs kds = some ss → kvs.map (·.1) = (ss.map toS).map Sum.inr ∧ (∀ x ∈ ss, okS x) ∧ ss.length = kds.length
  | _, _, ss, .nil, h => by cases h; exact ⟨rfl, (fun _ q => nomatch q), rfl⟩
  | _, _, ss, @Dkv.cons _ _ _ (.s x) _ _ _ _ ok _ r, h => by
    obtain ⟨t, ht, rfl⟩ := Option.map_eq_some_iff.mp h
    obtain ⟨h1, h2, h3⟩ := dkv_strs r ht
    refine ⟨?_, fun y hy => ?_, by simp [h3]⟩
    · rw [List.map_cons, h1]; rfl
    · rcases List.mem_cons.mp hy with rfl | q
      · exact ok
      · exact h2 y q
  | _, _, ss, @Dkv.cons _ _ _ (.i x) _ _ _ _ ok _ r, h => by cases h
def dSortedB : D → Option D
  | .dct kds => match keyStrs kds with
    | some ss => if ss.length < 64 then some (.lst ((sortS ss).map .str)) else none
    | none => none
  | x => dSortedA x
theorem b_sortedB (hc : c.hot = false := by first | rfl | assumption) : BCl c (.builtin "sorted") (on1 dSortedB) := fun X W z => by
  obtain ⟨rV, o, k⟩ := b_sortedA (c := c) hc X W z
  refine ⟨_, CallR.or (cr_sortedDict (z.calm hc)) o, r1 fun F H x dx d Q s h e a => ?_⟩
  cases dx with
  | dct kds =>
    cases h
    rename_i h1 r1 l1
    simp only [dSortedB] at e
    split at e
    case h_2 => cases e
    rename_i ss hs
    split at e
    case isFalse => cases e
    rename_i h64
    cases e
    obtain ⟨q1, q2, q3⟩ := dkv_strs r1 hs
    refine .inl ⟨_, _, _, ss.map toS, rfl, s _ _ h1, q1, by simpa using h64, fun ys p hp hsr hn => ?_⟩
    rw [sortedS_eq hp hsr]
    exact after_lst s a hn (dns_strs fun c hc => q2 c (sortS_mem.mp hc)) (by rw [List.length_map, sortS_len, q3]; exact l1)
  | _ => exact .inr (k F H [x] [_] d Q s (.cons h .nil) e a)
end
instance (a : M D) [h : Pu a] : Pu (keysS a) := ⟨fun ρ => pu_b (h.pu ρ) fun x => pu_lift _ ρ⟩
@[simp] theorem dSortedB_str (x : Cs) : dSortedB (.str x) = dSortedA (.str x) := nrfl rfl
@[simp] theorem dSortedB_lst (x : List D) : dSortedB (.lst x) = dSortedA (.lst x) := nrfl rfl
theorem keyStrs_map {α : Type} (f : α → Cs) (v : α → D) : ∀ xs : List α, keyStrs (xs.map fun x => (DK.s (f x), v x)) = some (xs.map f)
  | [] => rfl
  | x :: r => by rw [List.map_cons, keyStrs, keyStrs_map f v r]; rfl
end DL

namespace DL
open PySem L2 PyProof.Rows
section
variable {c : Stat}
/-! ### is True, is not True -/
def dIsB : D → D → Option D
  | .bl a, .bl b => some (.bl (decide (a = b)))
  | _, _ => none
def dIsNotB : D → D → Option D
  | .bl a, .bl b => some (.bl (!decide (a = b)))
  | _, _ => none
@[simp] theorem dIsB_bl (a b : Bool) : dIsB (.bl a) (.bl b) = some (.bl (decide (a = b))) := nrfl rfl
@[simp] theorem dIsNotB_bl (a b : Bool) : dIsNotB (.bl a) (.bl b) = some (.bl (!decide (a = b))) := nrfl rfl
end
end DL

namespace DL
open PySem L2 PyProof.Rows
section
variable {c : Stat}
/-! ### a thing of its own, given up at once -/
theorem Rel.frzN {G : Ent} {F H : Hp} {σ : L2.St} {ρ : En} {a : Addr} {o : HO} (R : Rel c.K c.mg c.xt G F H σ ρ) (nf : F a = none) (nh : G.H0 a = none ∨ ∃ p ∈ G.pa, p.2 = a) (no : ∀ (i : Nat) (e : D), ρ[i]? = some (.ow e) → σ[i]? ≠ some (some (.ref a))) (pl : PlainA H a) :
    Rel c.K c.mg c.xt G (upd F a o) (upd H a o) σ ρ := by
  have h0 : G.H0 a = none := by
    rcases nh with z | ⟨p, pm, z⟩
    · exact z
    · exfalso
      obtain ⟨d, q⟩ := R.pw p pm
      refine no p.1 d q ?_
      rw [← z]; exact R.par p pm
  have sF : Same F (upd F a o) := fun x u q => by rw [upd_ne (ne_of_none q nf)]; exact q
  refine ⟨R.f0.trans sF, fun x u q => ?_, fun b u h1 ht h2 => ?_, R.par, fun j f q => ?_, fun j f q => ?_, R.ne, R.len, R.pw, fun b hb => ?_, fun b ps h => ?_, (R.tb.updF pl).upd pl, xcMono' sF R.xc⟩
  · by_cases hx : x = a
    · subst hx; rw [upd_same] at q ⊢; exact q
    · rw [upd_ne hx] at q ⊢; exact R.fh x u q
  · rw [upd_ne (ne_of_none h1 h0)]; exact R.kept b u h1 ht h2
  · obtain ⟨v, h1, h2⟩ := R.fz j f q
    exact ⟨v, h1, h2.mono sF⟩
  · obtain ⟨x, h1, h2⟩ := R.ow j f q
    have hx : x ≠ a := fun z => no j f q (by rw [← z]; exact h1)
    exact ⟨x, h1, ⟨by rw [upd_ne hx]; exact h2.nf, h2.nh, h2.at_.mono sF fun u z => by rw [upd_ne hx]; exact z⟩⟩
  · have : b ≠ a := fun z => by subst z; exact hb h0
    rw [upd_ne this]; exact R.fn b hb
  · obtain ⟨qs, q⟩ := R.tbs b ps h
    exact ⟨qs, by rw [upd_ne (ne_of_none h h0)]; exact q⟩
def fzS : Sl → Option D
  | .ow (.dct k) => if k.length ≤ sz then some (.dct k) else none
  | .ow (.lst k) => if k.length ≤ sz then some (.lst k) else none
  | .fz d => some d
  | _ => none
def fzD (m : M Sl) : M D := bnd m fun s => lift (fzS s)
theorem ed_fzD {e : Expr} {m : M Sl} (h : EV c e m) : ED c e (fzD m) := fun G X W z => by
  refine ⟨fun pins s σ H Q I ⟨F, ρ, R, q⟩ => ?_⟩
  have key : tV c G W m σ H fun v H' => ∃ t F' ρ', Rel c.K c.mg c.xt G F' H' σ ρ' ∧ SlAt c G F' H' σ ρ' v t ∧ Post (Dn c.K c.mg) c G W F' σ (lift (fzS t) ρ') Q := by
    refine ⟨F, ρ, R, ?_⟩
    unfold fzD bnd at q
    cases e : m ρ with
    | bad => rw [e] at q; exact q
    | err x ρ' => rw [e] at q; exact q
    | ok t ρ' =>
      rw [e] at q
      exact fun v F' H' s2 R' sl => ⟨t, F', ρ', R', sl, Post.mono s2 q⟩
  refine wpAny_mono ((h G X W z).run pins s σ H _ I key) (fun u s' hu => ?_) fun _ _ x => x
  obtain ⟨v, H', I', rv, t, F', ρ', R', sl, q'⟩ := hu
  obtain ⟨d, hd, q2⟩ := Post.lift R' q'
  cases t with
  | un => exact sl.elim
  | xc _ => exact sl.elim
  | fz d' =>
    simp only [fzS] at hd
    cases hd
    exact ⟨v, H', I', rv, q2.here R'.fh sl⟩
  | ow d' =>
    obtain ⟨a, rfl, ow, no⟩ := sl
    have sF : ∀ o, Same F' (upd F' a o) := fun o x u q => by rw [upd_ne (ne_of_none q ow.nf)]; exact q
    cases d' with
    | lst ds =>
      simp only [fzS] at hd
      split at hd
      case isFalse => cases hd
      cases hd
      rename_i hl
      obtain ⟨vs, h1, h2⟩ := ow.at_
      have R2 := R'.frzN (o := .lst vs) ow.nf ow.nh no ow.at_.plain
      rw [upd_self h1] at R2
      exact ⟨_, H', I', rv, by
        have := q'
        simp only [fzS, if_pos hl] at this
        exact this _ _ _ (sF _) R2 (dn_lst ow.nf h2 hl)⟩
    | dct ds =>
      simp only [fzS] at hd
      split at hd
      case isFalse => cases hd
      cases hd
      rename_i hl
      obtain ⟨kvs, h1, h2⟩ := ow.at_
      obtain ⟨od, I1⟩ := I'.lock h1 trivial
      have R2 := R'.frzN (o := .frz od (.dK kvs)) ow.nf ow.nh no ow.at_.plain
      exact ⟨_, _, I1, rv, by
        have := q'
        simp only [fzS, if_pos hl] at this
        exact this _ _ _ (sF _) R2 (.dct upd_same (h2.mono (sF _)) hl)⟩
    | _ => simp only [fzS] at hd; cases hd
/-! ### dict(list of pairs) -/
def asPr : D → Option (DK × D)
  | .tup [k, d] => (asK k).map fun k => (k, d)
  | _ => none
def asPrs : List D → Option (List (DK × D))
  | [] => some []
  | x :: r => match asPr x, asPrs r with
    | some p, some ps => some (p :: ps)
    | _, _ => none
def mrg (ps : List (DK × D)) : List (DK × D) := ps.foldl (fun acc kv => putK' kv.1 kv.2 acc) []
def dPrs : D → Option (List (DK × D))
  | .lst xs => asPrs xs
  | _ => none
def owDict (a : M D) : M Sl := bnd a fun d => match dPrs d with
  | some ps => ret (.ow (.dct (mrg ps)))
  | none => fun _ => .bad
theorem dn_key {F : Hp} {v : V} {d : D} {k : DK} (h : Dn c.K c.mg F v d) (e : asK d = some k) : v = kV k.key ∧ okK k := by
  cases d <;> simp only [asK] at e <;> cases e
  · cases h; exact ⟨rfl, trivial⟩
  · cases h; rename_i ok; exact ⟨rfl, ok⟩
theorem prs_of {F : Hp} : ∀ {vs : List V} {ds : List D} {ps : List (DK × D)}, Dns c.K c.mg F vs ds → asPrs ds = some ps → ∃ (as : List Addr) (kvs : List (Key × V)), vs = as.map V.ref ∧ Paired (fun p kv => SqT c.K F p [kV kv.1, kv.2]) as kvs ∧ Dkv c.K c.mg F kvs ps
  | _, _, _, .nil, e => by cases e; exact ⟨[], [], rfl, .nil, .nil⟩
  | _, _, _, @Dns.cons _ _ _ v d vs ds h r, e => by
    simp only [asPrs] at e
    split at e
    case h_2 => cases e
    cases e
    rename_i p ps h1 h2
    obtain ⟨as, kvs, e1, e2, e3⟩ := prs_of r h2
    unfold asPr at h1
    split at h1
    case h_2 => cases h1
    rename_i kd vd
    obtain ⟨k, hk, rfl⟩ := Option.map_eq_some_iff.mp h1
    cases h
    rename_i a xs ht rr hl
    cases rr with
    | cons hk' rr =>
    cases rr with
    | cons hv' rr =>
    cases rr
    obtain ⟨rfl, ok⟩ := dn_key hk' hk
    exact ⟨a :: as, (k.key, _) :: kvs, by rw [e1]; rfl, .cons ht e2, .cons ok hv' e3⟩
theorem dkv_mrg {F : Hp} : ∀ {kvs : List (Key × V)} {ps : List (DK × D)} {acc : List (Key × V)} {acc' : List (DK × D)}, Dkv c.K c.mg F kvs ps → Dkv c.K c.mg F acc acc' → Dkv c.K c.mg F (mergeK acc kvs) (ps.foldl (fun acc kv => putK' kv.1 kv.2 acc) acc')
  | _, _, _, _, .nil, h => h
  | _, _, _, _, .cons hk hv r, h => by
    unfold mergeK
    rw [List.foldl_cons, List.foldl_cons]
    exact dkv_mrg r (dkv_put hk hv h)
theorem paired_same {F H : Hp} (e : Same F H) : ∀ {as : List Addr} {kvs : List (Key × V)}, Paired (fun p (kv : Key × V) => SqT c.K F p [kV kv.1, kv.2]) as kvs → Paired (fun p (kv : Key × V) => SqT c.K H p [kV kv.1, kv.2]) as kvs
  | _, _, .nil => .nil
  | _, _, .cons h r => .cons (same_t e h) (paired_same e r)
theorem ev_dictP {x : Str} {p pos : Pos} {e : Expr} {f : M D} (hx : x = "dict") (hg : Gn c x) (hm : c.mg x = none) (he : ED c e f) (hst : ∀ env, starEach [e] env = [(false, eval e env)] := by intro _; rfl) (hc : c.hot = false := by first | rfl | assumption) : EV c (.Call (.Name x p) [e] [] pos) (owDict f) := fun G X W z => by
  subst hx
  refine pe_imp (pe_callTy (call_dictP (z.calm hc)) (hg.gl z) (by rw [z.mg]; exact hm) bt_dict (pa_cons (he G X W z) pa_nil (hst _)) (by decide) (by decide) (hst _) rfl) fun σ H Q ⟨F, ρ, R, q⟩ => ?_
  refine tG_bindV R q fun F1 H1 ρ1 v d s1 R1 rx q1 => ?_
  cases hp : dPrs d with
  | none => simp only [hp] at q1; exact q1.elim
  | some ps =>
    simp only [hp] at q1
    cases d <;> simp only [dPrs] at hp <;> try cases hp
    cases rx
    rename_i a vs h1 r1 l1
    obtain ⟨as, kvs, rfl, e2, e3⟩ := prs_of r1 hp
    refine ⟨_, as, kvs, rfl, .inl (same_rd R1.fh h1), by rw [z.K]; exact paired_same R1.fh e2, fun p hp' => ?_⟩
    obtain ⟨R2, s2⟩ := fresh_own (d := .dct (mrg ps)) (o := .dK (mergeK [] kvs)) R1 hp' ⟨_, upd_same, dkv_mrg e3 .nil⟩
    exact q1 _ F1 _ (Same.refl _) R2 s2
def dDictP (d : D) : Option D := (dPrs d).bind fun ps => if (mrg ps).length ≤ sz then some (.dct (mrg ps)) else none
theorem fz_dictP (f : M D) : fzD (owDict f) = op1 dDictP f := by
  funext ρ
  unfold fzD owDict op1 bnd
  cases f ρ with
  | bad => rfl
  | err x r => rfl
  | ok d r =>
    dsimp only
    unfold dDictP
    cases dPrs d with
    | none => rfl
    | some ps =>
      dsimp only [Option.bind, DL.ret, fzS]
theorem xdict {p pos : Pos} {e : Expr} {f : M D} (hm : c.mg "dict" = none) (he : ED c e f) (hg : c.sc.names.lookup ("dict" : Str) = some .globalImplicit := by kernel_rfl) (hst : ∀ env, starEach [e] env = [(false, eval e env)] := by intro _; rfl) (hc : c.hot = false := by first | rfl | assumption) : ED c (.Call (.Name "dict" p) [e] [] pos) (op1 dDictP f) := fz_dictP f ▸ ed_fzD (ev_dictP rfl hg hm he hst)
theorem mrg_new : ∀ (ps acc : List (DK × D)), (ps.map (·.1)).Nodup → (∀ p ∈ ps, ∀ q ∈ acc, q.1 ≠ p.1) → ps.foldl (fun acc kv => putK' kv.1 kv.2 acc) acc = acc ++ ps
  | [], acc, _, _ => by simp
  | p :: r, acc, nd, h => by
    rw [List.map_cons, List.nodup_cons] at nd
    rw [List.foldl_cons, putK_new (fun kv hkv => h p List.mem_cons_self kv hkv), mrg_new r _ nd.2]
    · simp
    · intro q hq x hx
      rcases List.mem_append.mp hx with hx | hx
      · exact h q (List.mem_cons_of_mem _ hq) x hx
      · rw [List.mem_singleton.mp hx]
        intro e
        exact nd.1 (List.mem_map.mpr ⟨q, hq, e.symm⟩)
theorem asPrs_map {τ : Type} (g : τ → D) (k : τ → DK × D) (h : ∀ x, asPr (g x) = some (k x)) : ∀ xs : List τ, asPrs (xs.map g) = some (xs.map k)
  | [] => rfl
  | x :: r => by simp only [List.map_cons, asPrs, h, asPrs_map g k h r]
theorem dDictP_map {τ : Type} (g : τ → D) (k : τ → DK × D) (h : ∀ x, asPr (g x) = some (k x)) {xs : List τ} (nd : (xs.map fun x => (k x).1).Nodup) (hl : xs.length ≤ sz) : dDictP (.lst (xs.map g)) = some (.dct (xs.map k)) := by
  have e : mrg (xs.map k) = xs.map k := by
    unfold mrg
    rw [mrg_new _ [] (by rw [List.map_map]; exact nd) (fun _ _ _ hq => nomatch hq)]
    simp
  simp only [dDictP, dPrs, asPrs_map g k h, Option.bind_some, e, List.length_map, hl, if_true]
end
end DL

namespace DL
open PySem PySem.Spec PyProof.Rows L2
/-! ### a tuple turned round -/
section
variable {prog : Program} {w : World} {A : Around} {E : Value → Shared → Prop} {s : Shared}
theorem apply_rev {sl : Addr} {vk : Value} {n : Nat} {Q : Int × Int × Nat → Shared → Prop} (hs : s.heap.IsSliceOf sl .none .none vk) (pk : IsPart vk (some (-1))) (h : Q ((n : Int) - 1, -1, n) s) :
    wpAny (model prog w) A (Builtin.Slice.sliceApplied (.ref sl) (pure (n : Int))) Q E s := by
  obtain ⟨ob, e1, e2, e3⟩ := id hs
  have pn : IsPart Value.none none := .none
  unfold Builtin.Slice.sliceApplied Builtin.Slice.sliceFields
  refine wpAny_bind (wpAny_bind (wpAny_field e1 e3 (x := .none) rfl (wpAny_bind (wpAny_field e1 e3 (x := .none) rfl (wpAny_bind (wpAny_field e1 e3 (x := vk) rfl (wpAny_pure ?_)))))))
  refine wpAny_bind (HT.slicePart_ pk ?_)
  show wpAny _ _ (if ((-1 : Int) == 0) = true then _ else _) _ _ s
  rw [if_neg (by decide)]
  refine wpAny_bind (HT.slicePart_ pn (wpAny_bind (HT.slicePart_ pn (wpAny_bind (wpAny_pure ?_)))))
  have e : Builtin.Slice.sliceAdjust none none (-1) (n : Int) = ((n : Int) - 1, -1) := by
    simp [Builtin.Slice.sliceAdjust]
  have e5 : Builtin.Slice.slicePlaces ((n : Int) - 1) (-1) (-1) = n := by
    unfold Builtin.Slice.slicePlaces
    have h1 : ¬ ((-1 : Int) > 0) := by decide
    rw [if_neg h1]
    by_cases h2 : (n : Int) - 1 > -1
    · rw [if_pos h2]
      have : ((n : Int) - 1 - -1 - 1) / (- -1) + 1 = (n : Int) := by
        rw [show (- -1 : Int) = 1 by decide, Int.ediv_one]; omega
      rw [this]; rfl
    · rw [if_neg h2]; omega
  show wpAny _ _ (match Builtin.Slice.sliceAdjust none none (-1) (n : Int) with | (lo, hi) => pure (lo, (-1 : Int), Builtin.Slice.slicePlaces lo hi (-1))) _ _ s
  rw [e]
  show wpAny _ _ (pure ((n : Int) - 1, (-1 : Int), Builtin.Slice.slicePlaces ((n : Int) - 1) (-1) (-1))) _ _ s
  rw [e5]
  exact wpAny_pure h
theorem fm_congr {α β : Type} {f g : α → Option β} : ∀ {l : List α}, (∀ x ∈ l, f x = g x) → l.filterMap f = l.filterMap g
  | [], _ => rfl
  | a :: r, h => by
    rw [List.filterMap_cons, List.filterMap_cons, h a List.mem_cons_self, fm_congr fun x hx => h x (List.mem_cons_of_mem _ hx)]
theorem pick_rev (xs : Array Value) : ((List.range xs.size).filterMap fun (m : Nat) => xs[(((xs.size : Int) - 1) + (m : Int) * (-1)).toNat]?).toArray = xs.toList.reverse.toArray := by
  have e : ((List.range xs.size).filterMap fun (m : Nat) => xs[(((xs.size : Int) - 1) + (m : Int) * (-1)).toNat]?) = ((List.range xs.size).map fun m => xs.size - 1 - m).filterMap fun i => xs[i]? := by
    rw [List.filterMap_map]
    refine fm_congr fun m hm => ?_
    have := List.mem_range.mp hm
    show _ = xs[xs.size - 1 - m]?
    congr 1
    omega
  rw [e, PySem.W.krv_range, List.filterMap_reverse, PySem.W.krv_all]
theorem item_rev {t sl : Addr} {items : Array Value} {vk : Value} {Q : Value → Shared → Prop} (ht : IsTup s.heap t items) (hs : s.heap.IsSliceOf sl .none .none vk) (pk : IsPart vk (some (-1)))
    (h : Q (.ref s.heap.objs.size) { s with heap := s.heap.push { cls := .type "tuple", data := .seq items.toList.reverse.toArray } }) (hsz : items.size ≤ sizeLine) : wpAny (model prog w) A (getItem (.ref t) (.ref sl)) Q E s := by
  have hz : sizeOk (.seq items.toList.reverse.toArray) := by
    show items.toList.reverse.toArray.size ≤ sizeLine
    simpa using hsz
  obtain ⟨ob, e1, e2, e3⟩ := id hs
  have hT : s.TypeIs (.ref sl) "slice" := ⟨ob, e1, e2⟩
  unfold getItem
  try with_reducible refine wpAny_holding ?_
  first | refine wpAny_bind (wpAny_pure ?_) | skip
  refine wpAny_bind (wpAny_sequenceKey ht.typeIs (by decide) ?_)
  refine wpAny_bind (wpAny_callSpecial?_slot (name := Str.ofString "__getitem__") ht.typeIs slot_tuple_getitem (wpAny_call_entry slot_tuple_getitem ht.typeIs entry_tuple_getitem ?_ (args_tuple_getitem _ _)))
  show wpAny _ _ (Builtin.Tuple.tupleItemsOf (.ref t) >>= _) _ _ s
  refine wpAny_bind (tupleItemsOf_ ht (wpAny_bind (wpAny_typeOf hT ?_)))
  rw [if_pos (by decide)]
  refine wpAny_bind (apply_rev hs pk ?_)
  show wpAny _ _ (if (((items.size : Int) - 1 == 0) && ((-1 : Int) == 1) && (items.size == items.size)) = true then _ else _) _ _ s
  rw [if_neg (by simp), pick_rev]
  first
    | exact wpAny_bind (m := Builtin.Tuple.tupleExact _) (wpAny_newObj_type (wpAny_pure ⟨_, rfl, wpAny_pure h⟩) hz)
    | exact wpAny_bind (m := Builtin.Tuple.tupleExact _) (wpAny_newObj_type (wpAny_bind (wpAny_pure (wpAny_pure ⟨_, rfl, wpAny_pure h⟩))) hz)
    | exact wpAny_bind (wpAny_bind (m := Builtin.Tuple.tupleExact _) (wpAny_newObj_type (wpAny_pure (wpAny_pure ⟨_, rfl, wpAny_pure h⟩)) hz))
    | exact wpAny_bind (wpAny_bind (m := Builtin.Tuple.tupleExact _) (wpAny_newObj_type (wpAny_pure ⟨_, rfl, wpAny_pure h⟩) hz))
end
section
variable {X : Cx} {c : Stat}
def tRevT (K : PySem.W.Frag) (te : TE) : TE := fun σ H Q => te σ H fun x H1 => ∃ a xs, x = .ref a ∧ SqT K H1 a xs ∧ ∀ p, H1 p = none → Q (.ref p) (upd H1 p (.tup xs.reverse))
theorem pe_revT {e : Expr} {te : TE} {k : Nat} {p1 p2 p3 pos : Pos} (he : PE X e te) : PE X (.Subscript e (.Slice none none (some (.UnaryOp .USub (.Constant (.int 1) k p1) p2)) p3) pos) (tRevT X.K te) := by
  refine ⟨fun pins s σ H Q I h => Subscript_ (thn (he.run pins s σ H _ I h) fun v s1 ⟨x, H1, I1, r1, a, xs, ex, hx, q⟩ => ?_)⟩
  subst ex
  cases r1
  have st : PO X (some (.UnaryOp .USub (.Constant (.int 1) k p1) p2)) (tPart (tUn (rU fun i => .int (-i)) (tC (.int 1)))) := po_some (pe_un un_neg pe_int)
  refine wpAny_Slice (thn (po_none.run pins s1 σ H1 (fun o H2 => o = none ∧ H2 = H1) I1 ⟨rfl, rfl⟩) fun vl s2 ⟨l, H2, I2, pl, el, e2⟩ => ?_)
  subst el e2
  refine thn (po_none.run pins s2 σ H2 (fun o H3 => o = none ∧ H3 = H2) I2 ⟨rfl, rfl⟩) fun vu s3 ⟨u, H3, I3, pu, eu, e3⟩ => ?_
  subst eu e3
  refine thn (st.run pins s3 σ H3 (fun o H4 => o = some (-1) ∧ H4 = H3) I3 ⟨1, rfl, -1, rfl, rfl, rfl⟩) fun vs s4 ⟨o, H4, I4, ps, eo, e4⟩ => ?_
  subst eo e4
  cases pl
  cases pu
  have I5 : Inv X pins σ H4 { s4 with heap := s4.heap.push { cls := .type "slice", data := .fields #[.none, .none, vs] } } := I4.kept (t' := s4.toks) fun b ob q => Heap.get?_push_of_some _ q
  obtain ⟨its, r, ht, hz⟩ := I5.tuple hx
  have hl := r.length
  show wpAny (model X.prog X.w) X.A (subscriptTail e (.Slice none none (some (.UnaryOp .USub (.Constant (.int 1) k p1) p2)) p3) (.ref a) (.ref s4.heap.objs.size)) (EP X pins σ Q) X.xe { s4 with heap := s4.heap.push { cls := .type "slice", data := .fields #[.none, .none, vs] } }
  refine tail_any (ops := [.ref a, .ref s4.heap.objs.size]) ht.typeIs (slot_tuple_getitem.lookup) (item_rev ht (Heap.IsSliceOf.new _ .none .none vs) ps ?_ (by rw [List.size_toArray]; omega)) (by with_unfolding_all rfl)
  refine ⟨.ref _, _, I5.laid (t' := s4.toks) (o := .tup xs.reverse) (fun b ob q => Heap.get?_push_of_some _ q) (Nat.le_refl _) ⟨by rw [List.length_reverse]; exact hz, _, r.reverse, ?_⟩, rfl, q _ (I5.hok.fresh (Nat.le_refl _))⟩
  exact ⟨_, Heap.get?_push_size _ rfl, rfl, 0, rfl⟩
def dRev : D → Option D
  | .tup xs => if xs.length ≤ sz then some (.tup xs.reverse) else none
  | .lst xs => if xs.length ≤ sz then some (.lst xs.reverse) else none
  | _ => none
theorem Dns.rev {K : PySem.W.Frag} {mg : Str → Option Value} {F : Hp} : ∀ {vs : List V} {ds : List D}, Dns K mg F vs ds → Dns K mg F vs.reverse ds.reverse
  | _, _, .nil => .nil
  | _, _, .cons h r => by
    rw [List.reverse_cons, List.reverse_cons]
    exact r.rev.snoc h
theorem PE.or {e : Expr} {t u : TE} (h : PE X e t) (k : PE X e u) : PE X e (fun σ H Q => t σ H Q ∨ u σ H Q) := ⟨fun pins s σ H Q I q => q.elim (h.run pins s σ H Q I) (k.run pins s σ H Q I)⟩
theorem ed_rev {e : Expr} {f : M D} {k : Nat} {p1 p2 p3 pos : Pos} (he : ED c e f) : ED c (.Subscript e (.Slice none none (some (.UnaryOp .USub (.Constant (.int 1) k p1) p2)) p3) pos) (op1 dRev f) := fun G X W z => by
  refine pe_imp (PE.or (pe_revT (he G X W z)) (pe_revL (he G X W z))) fun σ H Q ⟨F, ρ, R, q⟩ => ?_
  unfold op1 bnd at q
  cases ef : f ρ with
  | bad => rw [ef] at q; exact q.elim
  | err x ρ' => rw [ef] at q; exact .inl ⟨F, ρ, R, by rw [ef]; exact q⟩
  | ok d ρ' =>
    rw [ef] at q
    cases d with
    | tup xs =>
      refine .inl ⟨F, ρ, R, ?_⟩
      rw [ef]
      intro x F1 H1 s1 R1 rx
      obtain ⟨d, e, k⟩ := (Post.mono s1 q).lift R1
      simp only [dRev] at e
      split at e
      case isFalse => cases e
      cases e
      cases rx
      rename_i hl a vs h1 r1 l1
      exact ⟨a, vs, rfl, by rw [z.K]; exact same_t R1.fh h1, fun p hp => after_tup R1.fh k hp r1.rev (by rw [List.length_reverse]; exact hl)⟩
    | lst xs =>
      refine .inr ⟨F, ρ, R, ?_⟩
      rw [ef]
      intro x F1 H1 s1 R1 rx
      obtain ⟨d, e, k⟩ := (Post.mono s1 q).lift R1
      simp only [dRev] at e
      split at e
      case isFalse => cases e
      cases e
      cases rx
      rename_i hl a vs h1 r1 l1
      exact ⟨a, vs, rfl, .inl (same_rd R1.fh h1), fun p hp => after_lst R1.fh k hp r1.rev (by rw [List.length_reverse]; exact hl)⟩
    | _ => exact q.elim
/-! ### a list of the frame's own, read in a test -/
def innr (i : Nat) : Nat → En → En
  | _, [] => []
  | k, .ow d :: r => (if k = i then .fz d else .un) :: innr i (k + 1) r
  | k, .xc _ :: r => .un :: innr i (k + 1) r
  | k, s :: r => s :: innr i (k + 1) r
theorem innr_len (i : Nat) : ∀ (k : Nat) (ρ : En), (innr i k ρ).length = ρ.length
  | _, [] => rfl
  | k, .ow d :: r => by simp [innr, innr_len i (k + 1) r]
  | k, .fz d :: r => by simp [innr, innr_len i (k + 1) r]
  | k, .un :: r => by simp [innr, innr_len i (k + 1) r]
  | k, .xc x :: r => by simp [innr, innr_len i (k + 1) r]
theorem innr_get (i : Nat) : ∀ (k : Nat) (ρ : En) (j : Nat) (s : Sl), (innr i k ρ)[j]? = some s → s = .un ∨ (∃ d, s = .fz d ∧ ρ[j]? = some (.fz d)) ∨ (k + j = i ∧ ∃ d, s = .fz d ∧ ρ[j]? = some (.ow d))
  | _, [], j, s, h => by simp [innr] at h
  | k, .ow d :: r, 0, s, h => by
    simp only [innr, List.getElem?_cons_zero, Option.some.injEq] at h
    split at h
    · rename_i hk
      exact .inr (.inr ⟨by omega, d, h.symm, rfl⟩)
    · exact .inl h.symm
  | k, .fz d :: r, 0, s, h => by
    simp only [innr, List.getElem?_cons_zero, Option.some.injEq] at h
    exact .inr (.inl ⟨d, h.symm, rfl⟩)
  | k, .un :: r, 0, s, h => by
    simp only [innr, List.getElem?_cons_zero, Option.some.injEq] at h
    exact .inl h.symm
  | k, .xc x :: r, 0, s, h => by
    simp only [innr, List.getElem?_cons_zero, Option.some.injEq] at h
    exact .inl h.symm
  | k, t :: r, j + 1, s, h => by
    have h' : (innr i (k + 1) r)[j]? = some s := by cases t <;> simpa [innr] using h
    rcases innr_get i (k + 1) r j s h' with q | ⟨d, q1, q2⟩ | ⟨q0, d, q1, q2⟩
    · exact .inl q
    · exact .inr (.inl ⟨d, q1, by simpa using q2⟩)
    · exact .inr (.inr ⟨by omega, d, q1, by simpa using q2⟩)
def brw {α : Type} (i : Nat) (m : M α) : M α := fun ρ => match ρ[i]? with
  | some (.ow (.lst ds)) => if ds.length ≤ sz then (match m (innr i 0 ρ) with
    | .ok b _ => .ok b ρ
    | _ => .bad) else .bad
  | _ => .bad
theorem rel_brw {G : Ent} {F H : Hp} {σ : L2.St} {ρ : En} {i : Nat} {ds : List D} {a : Addr} {vs : List V} (R : Rel c.K c.mg c.xt G F H σ ρ) (hi : ρ[i]? = some (.ow (.lst ds))) (hσ : σ[i]? = some (some (.ref a))) (nf : F a = none) (h1 : H a = some (.lst vs)) (h2 : Dns c.K c.mg F vs ds) (hl : ds.length ≤ sz) :
    Rel c.K c.mg c.xt ⟨upd F a (.lst vs), H, []⟩ (upd F a (.lst vs)) H σ (innr i 0 ρ) := by
  have sF : Same F (upd F a (.lst vs)) := fun x u q => by rw [upd_ne (ne_of_none q nf)]; exact q
  refine ⟨Same.refl _, fun x u q => ?_, fun b u h _ _ => h, fun p hp => (nomatch hp), fun j f q => ?_, fun j f q => ?_, fun j k x f g _ q1 _ _ => ?_, by rw [innr_len]; exact R.len, fun p hp => (nomatch hp), fun _ _ => rfl, fun b ps h => ⟨ps, h⟩, R.tb.updF (.lst h1), fun j x q => ?_⟩
  · by_cases hx : x = a
    · subst hx; rw [upd_same] at q; cases q; exact h1
    · rw [upd_ne hx] at q; exact R.fh x u q
  · rcases innr_get i 0 ρ j _ q with e | ⟨d, e, e2⟩ | ⟨e0, d, e, e2⟩
    · cases e
    · cases e
      obtain ⟨v, q1, q2⟩ := R.fz j f e2
      exact ⟨v, q1, q2.mono sF⟩
    · cases e
      have : j = i := by omega
      subst this
      rw [hi] at e2
      cases e2
      exact ⟨_, hσ, dn_lst nf h2 hl⟩
  · rcases innr_get i 0 ρ j _ q with e | ⟨d, e, e2⟩ | ⟨e0, d, e, e2⟩ <;> cases e
  · rcases innr_get i 0 ρ j _ q1 with e | ⟨d, e, e2⟩ | ⟨e0, d, e, e2⟩ <;> cases e
  · rcases innr_get i 0 ρ j _ q with e | ⟨d, e, e2⟩ | ⟨e0, d, e, e2⟩ <;> cases e
theorem et_brw {i : Nat} {e : Expr} {m : M Bool} (h : ET c e m) : ET c e (brw i m) := fun G X W z => by
  refine ⟨fun pins s σ H Q I ⟨F, ρ, R, q⟩ => ?_⟩
  unfold brw at q
  cases e1 : ρ[i]? with
  | none => rw [e1] at q; exact q.elim
  | some t =>
  rw [e1] at q
  cases t with
  | un => exact q.elim
  | xc _ => exact q.elim
  | fz d => exact q.elim
  | ow d =>
  cases d with
  | lst ds =>
    dsimp only at q
    split at q
    case isFalse => exact q.elim
    rename_i hl
    obtain ⟨a, hσ, ow⟩ := R.ow i _ e1
    obtain ⟨vs, h1, h2⟩ := ow.at_
    have R2 := rel_brw R e1 hσ ow.nf h1 h2 hl
    cases em : m (innr i 0 ρ) with
    | bad => rw [em] at q; exact q.elim
    | err x r => rw [em] at q; exact q.elim
    | ok b r =>
      rw [em] at q
      refine (h ⟨upd F a (.lst vs), H, []⟩ X W z).run pins s σ H Q I ⟨_, _, R2, ?_⟩
      rw [em]
      intro b' F' H' s' R' hb
      have fh' : Same F H' := fun x u qx => R'.fh x u (R'.f0 x u (by show upd F a _ x = _; rw [upd_ne (ne_of_none qx ow.nf)]; exact qx))
      exact q b' F H' (Same.refl _) {
        f0 := R.f0
        fh := fh'
        kept := fun b o h1 ht h2 => R'.kept b o (R.kept b o h1 ht h2) ht fun p hp => (nomatch hp)
        par := R.par
        fz := R.fz
        ow := fun k d h => let ⟨b, h1, h2⟩ := R.ow k d h; ⟨b, h1, ⟨h2.nf, h2.nh, h2.at_.mono' (Same.refl _) fun o ho q => R'.kept b o q ho fun p hp => (nomatch hp)⟩⟩
        ne := R.ne
        len := R.len
        pw := R.pw
        fn := R.fn
        tbs := fun b ps h => let ⟨qs, q⟩ := R.tbs b ps h; R'.tbs b qs q
        tb := ⟨R'.tb.t, R.tb.n⟩
        xc := R.xc } hb
  | _ => exact q.elim
/-! ### len(set(list of ints)) -/
def ddI : List Int → List Int := fun ns => ns.foldl PyProof.Rows.step_dedup []
theorem firstMet_dd (ns : List Int) : firstMet (fun i => ns.getD i 0) ns.length = ddI ns := by
  unfold firstMet ddI
  congr 1
  apply List.ext_getElem
  · simp
  · intro i h1 h2
    have : i < ns.length := by simpa using h1
    simp [this]
def tLenSt (K : PySem.W.Frag) (ta : TE) : TE := fun σ H Q => ta σ H fun x H1 => ∃ (l : Addr) (ns : List Int), x = .ref l ∧ SqL K H1 l (ns.map V.int) ∧ ns.length ≤ 4000 ∧ Q (.int ((ddI ns).length : Nat)) H1
theorem pe_lenSt {a : Expr} {ta : TE} {p p2 q pos : Pos} (hc : X.calm = true) (hg : Gl X "len") (hm : X.mg "len" = none) (hg2 : Gl X "set") (hm2 : X.mg "set" = none) (ha : PE X a ta) (na : starEach [a] X.env = (false, eval a X.env) :: starEach [] X.env := by rfl) :
    PE X (.Call (.Name "len" p) [.Call (.Name "set" p2) [a] [] q] [] pos) (tLenSt X.K ta) := by
  refine ⟨fun pins s σ H Q I h => Call_ (ld_blt I hg hm boot_len (callWith_builtin1 (args_cons (Call_ (ld_blt I hg2 hm2 boot_set ?_)) rfl) rfl rfl))⟩
  refine callWith_type1 (args_cons (thn (ha.run pins s σ H _ I h) fun v s1 ⟨x, H1, I1, r1, l, ns, ex, hq, hl, q1⟩ => args_nil ?_) na) na rfl
  subst ex
  cases r1
  obtain ⟨its, r, pl, hz⟩ := I1.list hq
  have hlen : its.toArray.size = ns.length := by rw [List.size_toArray, ← r.length, List.length_map]
  refine call_set_list (I1.ok.hd hc) pl.isList (by simpa using RZ.intsAre_vals r) (by rw [hlen]; unfold scanBound; omega) fun h' tk hS hk => args_nil ?_
  rw [hlen, firstMet_dd] at hS
  have hle : (ddI ns).length ≤ ns.length := by rw [← firstMet_dd]; exact firstMet_length_le _ _
  obtain ⟨o, es, ep, t, ho, hex, hd, _, _, _, hf, hn⟩ := hS
  have I2 : Inv X pins σ H1 { s1 with heap := h', toks := tk } := I1.kept fun b o e => hk b o (Heap.lt_size e) e
  exact call_len_set ho hex hd hf (by rw [hn] <;> omega) ⟨.int (ddI ns).length, H1, I2.tok _, ⟨_, by rw [hn]⟩, q1⟩
def dLenSt : D → Option D
  | .lst xs => (asInts xs).bind fun ns => if ns.length ≤ 4000 then some (.int ((ddI ns).length : Nat)) else none
  | _ => none
theorem ed_lenSt {a : Expr} {f : M D} {p p2 q pos : Pos} (hm : c.mg "len" = none) (hm2 : c.mg "set" = none) (ha : ED c a f) (hg : c.sc.names.lookup ("len" : Str) = some .globalImplicit := by kernel_rfl) (hg2 : c.sc.names.lookup ("set" : Str) = some .globalImplicit := by kernel_rfl) (na : ∀ env, starEach [a] env = (false, eval a env) :: starEach [] env := by intro _; rfl) (hc : c.hot = false := by first | rfl | assumption) :
    ED c (.Call (.Name "len" p) [.Call (.Name "set" p2) [a] [] q] [] pos) (op1 dLenSt f) := fun G X W z => by
  refine pe_imp (pe_lenSt (z.calm hc) (Gn.gl (c := c) hg z) (by rw [z.mg]; exact hm) (Gn.gl (c := c) hg2 z) (by rw [z.mg]; exact hm2) (ha G X W z) (na _)) fun σ H Q ⟨F, ρ, R, q⟩ => ?_
  refine tG_bind R q fun F1 H1 ρ1 x dx s1 R1 rx q1 => ?_
  obtain ⟨d, e, k⟩ := q1.lift R1
  cases dx <;> simp only [dLenSt] at e <;> try cases e
  rename_i xs
  cases en : asInts xs with
  | none => rw [en] at e; cases e
  | some ns =>
    rw [en] at e
    simp only [Option.bind_some] at e
    split at e
    case isFalse => cases e
    cases e
    rename_i hl
    cases rx
    rename_i a' vs h1 r1 l1
    obtain ⟨rfl, _⟩ := ints_of r1 en
    exact ⟨a', ns, rfl, .inl (same_rd R1.fh h1), hl, k.here R1.fh (.int _)⟩
/-! ### written dicts -/
theorem xdict0 {pos : Pos} : ED c (.Dict [] [] pos) (cn (.dct [])) := by
  have h := ed_fzD (c := c) (ev_dict0 (pos := pos))
  have e : fzD (DL.ret (.ow (.dct []))) = cn (.dct []) := by
    funext ρ
    simp [fzD, bnd, DL.ret, fzS, cn, lift]
  rw [e] at h
  exact h
theorem ev_dict1 {x : Str} {cs : Cs} {i : Int} {j1 j2 : Nat} {p1 p2 pos : Pos} (ex : x = toS cs) (ok : okS cs) : EV c (.Dict [some (.Constant (.str x) j1 p1)] [.Constant (.int i) j2 p2] pos) (DL.ret (.ow (.dct [(.s cs, .int i)]))) := fun G X W z => by
  subst ex
  refine pe_imp (pe_disp (pps_cons pe_str pe_int pps_nil) rfl rfl (by simp) (by simp)) fun σ H Q ⟨F, ρ, R, q⟩ => fun p hp => ?_
  refine ⟨upd_same, [(.inr (toS cs), .int i)], rfl, by simp, ?_⟩
  rw [upd_upd]
  obtain ⟨R2, s2⟩ := fresh_own (d := .dct [(.s cs, .int i)]) (o := .dK (mergeK [] [(.inr (toS cs), .int i)])) R hp ⟨_, upd_same, .cons (k := .s cs) ok (.int i) .nil⟩
  exact q _ F _ (Same.refl _) R2 s2
theorem xdict1 {x : Str} {cs : Cs} {i : Int} {j1 j2 : Nat} {p1 p2 pos : Pos} (ex : x = toS cs := by rfl) (ok : okS cs := by decide) : ED c (.Dict [some (.Constant (.str x) j1 p1)] [.Constant (.int i) j2 p2] pos) (cn (.dct [(.s cs, .int i)])) := by
  have h := ed_fzD (c := c) (ev_dict1 (i := i) (j1 := j1) (j2 := j2) (p1 := p1) (p2 := p2) (pos := pos) ex ok)
  have e : fzD (DL.ret (.ow (.dct [(.s cs, .int i)]))) = cn (.dct [(.s cs, .int i)]) := by
    funext ρ
    have : (1 : Nat) ≤ sz := by decide
    simp [fzD, bnd, DL.ret, fzS, cn, lift, this]
  rw [e] at h
  exact h
@[simp] theorem innr_nil (i k : Nat) : innr i k [] = [] := nrfl rfl
@[simp] theorem innr_ow (i k : Nat) (d : D) (r : En) : innr i k (.ow d :: r) = (if k = i then .fz d else .un) :: innr i (k + 1) r := nrfl rfl
@[simp] theorem innr_fz (i k : Nat) (d : D) (r : En) : innr i k (.fz d :: r) = .fz d :: innr i (k + 1) r := nrfl rfl
@[simp] theorem innr_un (i k : Nat) (r : En) : innr i k (.un :: r) = .un :: innr i (k + 1) r := nrfl rfl
@[simp] theorem dRev_tup (xs : List D) : dRev (.tup xs) = if xs.length ≤ sz then some (.tup xs.reverse) else none := nrfl rfl
@[simp] theorem dRev_lst (xs : List D) : dRev (.lst xs) = if xs.length ≤ sz then some (.lst xs.reverse) else none := nrfl rfl
theorem ddI_mem : ∀ (ns acc : List Int) (x : Int), x ∈ ns.foldl PyProof.Rows.step_dedup acc ↔ x ∈ acc ∨ x ∈ ns
  | [], acc, x => by simp
  | a :: r, acc, x => by
    rw [List.foldl_cons, ddI_mem r]
    unfold PyProof.Rows.step_dedup
    split
    · rename_i h
      obtain ⟨y, hy, e⟩ := List.any_eq_true.mp h
      have : y = a := eq_of_beq e
      subst this
      constructor
      · rintro (h | h)
        · exact .inl h
        · exact .inr (List.mem_cons_of_mem _ h)
      · rintro (h | h)
        · exact .inl h
        · rcases List.mem_cons.mp h with rfl | h
          · exact .inl hy
          · exact .inr h
    · rw [List.mem_append, List.mem_singleton, List.mem_cons, or_assoc]
theorem ddI_same {n : Int} : ∀ (ns acc : List Int), (∀ x ∈ ns, x = n) → n ∈ acc → ns.foldl PyProof.Rows.step_dedup acc = acc
  | [], acc, _, _ => rfl
  | a :: r, acc, h, ha => by
    rw [List.foldl_cons]
    have e : PyProof.Rows.step_dedup acc a = acc := by
      unfold PyProof.Rows.step_dedup
      rw [if_pos (List.any_eq_true.mpr ⟨n, ha, by rw [h a List.mem_cons_self]; simp⟩)]
    rw [e]
    exact ddI_same r acc (fun x hx => h x (List.mem_cons_of_mem _ hx)) ha
/-! ### a text so often -/
def rMulS : R2 := fun x y H Q => ∃ (cs : Cs) (k : Int), x = .str (toS cs) ∧ y = .int k ∧ 1 ≤ k ∧ k ≤ 1000 ∧ cs.length ≤ 1000 ∧ Q (.str (toS (List.replicate k.toNat cs).flatten)) H
theorem fold_cps (cs : Cs) : ∀ (n : Nat) (acc : Cs), (List.replicate n cs.toArray).foldl (· ++ ·) acc.toArray = (acc ++ (List.replicate n cs).flatten).toArray
  | 0, acc => by simp
  | n + 1, acc => by
    rw [List.replicate_succ, List.foldl_cons, List.replicate_succ, List.flatten_cons]
    rw [show acc.toArray ++ cs.toArray = (acc ++ cs).toArray by simp, fold_cps cs n]
    simp
def dMulS : D → D → Option D
  | .str cs, .int k => if 1 ≤ k ∧ k ≤ 1000 ∧ cs.length ≤ 1000 then some (.str (List.replicate k.toNat cs).flatten) else none
  | _, _ => none
end
end DL

/-! the program's own errors: class C(B): def __init__(self, f): self.f = f; raised -/
namespace DL
open PySem PySem.Spec PyProof.Rows L2
/-! ### the text -/
def erA (f : Str) (p1 p2 : Pos) : Arguments :=
  ⟨[], [⟨"self", none, p1⟩, ⟨f, none, p2⟩], none, [], [], none, []⟩
def erB (f : Str) (q1 q2 q3 q4 : Pos) : List Stmt :=
  [.Assign [.Attribute (.Name "self" q1) f q2] (.Name f q3) q4]
def erS (f : Str) : Scope :=
  ⟨.function, [("self", .local), (f, .local)], false, false, []⟩
def erF (f : Str) : Bool := f == "given" || f == "index"
/-- what the written part says of the class n, at C, with the one field f, and of its __init__, at fI -/
structure ErrT (K : PySem.W.Frag) (mg : Str → Option Value) (n f : Str) (C fI : Addr) : Prop where
  fo : erF f = true
  gC : mg n = some (.ref C)
  bx : ∃ (B nw ini : String) (mr : List Value), ExcBaseFacts B nw ini mr ∧ StoreFacts B mr "object.__setattr__" "object" ∧
    PySem.W.excInitIn K C mr nw = true ∧ PySem.W.excOver K C mr = true
  sa : PySem.W.findIn K (.ref C) "__setattr__" = some (some (.builtin "object.__setattr__"))
  ga : PySem.W.findIn K (.ref C) "__getattribute__" = some (some (.builtin "BaseException.__getattribute__"))
  gg : PySem.W.findIn K (.ref C) "__getattr__" = some none
  no : PySem.W.findIn K (.ref C) f = some none
  iC : PySem.W.findIn K (.ref C) "__init__" = some (some (.ref fI))
  tC : PySem.W.typeIn K (.ref fI) = some (.type "function")
  kC : PySem.W.keepIn K (.ref C) = true
  exC : PySem.W.subIn K (.ref C) (.type "BaseException") = some true
  tyC : PySem.W.typeIn K (.ref C) = some (.type "type")
  hd : PySem.W.hasDictIn K C = true
  fn : ∃ (oc : Value) (od : Option Addr) (doc pm : Value) (an : Option Addr) (cdv ct : Value) (sl : Array (Option Value)) (p1 p2 q1 q2 q3 q4 : Pos) (ql : Str),
    K.lookup fI = some ⟨oc, od, .func (PySem.W.fnOf "__init__" ql (erA f p1 p2) (erB f q1 q2 q3 q4) (erS f) .none .none doc pm an cdv ct), sl⟩ ∧ PySem.W.codeIn K cdv ql = true
theorem erF_cases {f : Str} (h : erF f = true) : f = "given" ∨ f = "index" := by
  unfold erF at h
  simpa using h
section
variable {prog : Program} {w : World} {A : Around} {R : Result → Shared → Prop} {s : Shared} {K : PySem.W.Frag} {mg : Str → Option Value} {C fI : Addr} {n f : Str}
open PySem.HandSPX (excO)
/-- the first store into a new exception -/
theorem er_store {x t0 : Addr} {v : Value} {tk : Tok} (T : ErrT K mg n f C fI) (X : K.In s.heap) (hx : s.heap.get? x = some (excO C t0))
    (hq : ∀ h' tk' dx, (∀ b o, b ≠ x → s.heap.get? b = some o → h'.get? b = some o) → s.heap.objs.size ≤ dx → dx ≠ x →
      h'.get? x = some { cls := .ref C, dict := some dx, data := .fields #[.ref t0, .none, .none, .none, .bool false, .none] } →
      h'.Ns1 dx (fun y => if y = f then some v else none) → R (.ok (.ret .none)) { s with heap := h', toks := tk' }) :
    codeAny (model prog w) A (.call (.builtin "object.__setattr__") ⟨[.ref x, .str f tk, v], []⟩) R s := by
  obtain ⟨B, nw, ini, mr, eb, st, ei, eo⟩ := T.bx
  have tn : PySem.W.takerIn K C f = some none := by unfold PySem.W.takerIn; rw [T.no]; rfl
  refine PySem.W.osa_openX (od := none) st X ⟨hx, rfl, rfl, trivial⟩ eo tn fun b => ?_
  obtain ⟨cd, hc, hd'⟩ := PySem.W.any_some T.hd
  have hxs : x ≠ s.heap.objs.size := Nat.ne_of_lt (Heap.lt_size hx)
  have hcl : PySem.W.Looks (model prog w) s.heap (classData C) cd := PySem.W.looks_clsIn X hc
  refine wpAny_bind (wpAny_pure (wpAny_bind (PySem.W.instanceDict_exc hx hcl hd' ?_)))
  obtain ⟨hp, g, dr, t, os⟩ := s
  refine PySem.HandSPX.store_in_new ⟨_, #[], _, (Heap.get?_update_ne _ _ _ _ hxs.symm).trans (Heap.get?_push_at rfl rfl), rfl, fun e he => absurd he (by simp), fun _ => rfl⟩ fun h' tk' hn' hs => ?_
  have hx1 : (hp.push (PySem.W.dictOf [] 0)).get? x = some (excO C t0) := Heap.get?_push_of_some _ hx
  refine hq h' tk' hp.objs.size (fun b o hb ho => ?_) (Nat.le_refl _) hxs.symm ?_ hn'
  · have nb : b ≠ hp.objs.size := Nat.ne_of_lt (Heap.lt_size ho)
    rw [hs.2 b nb]
    rw [Heap.get?_update_ne _ _ _ _ hb]
    exact Heap.get?_push_of_some _ ho
  · rw [hs.2 x hxs]
    exact Heap.get?_update_self _ hx1 rfl
theorem er_ld {M : Model} {L a : Addr} {q : Str} {sc : Scope} {cd v : Value} {m : Str → Option Value} {x : Str} {pos : Pos} {Q : Value → Shared → Prop} {E : Value → Shared → Prop}
    (hn : s.heap.Ns L m) (hv : m x = some v) (h : Q v s) (hk : sc.kind = .function) (hl : (envOfC q sc L a cd).kindOf x = some .local) (hd : (x == ("__debug__" : Str)) = false) :
    wpAny M A (eval (.Name x pos) (envOfC q sc L a cd)) Q E s := wpAny_Name (wpAny_loadName_local hk hl hn hv h) hd
/-- a made error -/
structure ErMade (h h' : Heap) (e C d : Addr) (f : Str) (v : Value) : Prop where
  keep : ∀ b o, h.get? b = some o → h'.get? b = some o
  new : h.objs.size ≤ e
  obj : ∃ oe vs, h'.get? e = some oe ∧ oe.cls = .ref C ∧ oe.dict = some d ∧ oe.data = .fields vs ∧ vs[1]? = some .none
  dbig : h.objs.size ≤ d
  dne : d ≠ e
  ns : h'.Ns1 d (fun y => if y = f then some v else none)
theorem er_init {x t0 : Addr} {v : Value} (T : ErrT K mg n f C fI) (X : K.In s.heap) (lim : s.heap.NoLimit) (hx : s.heap.get? x = some (excO C t0)) (room : A.depth < recursionLimit)
    (hq : ∀ h' tk dx, (∀ b o, b ≠ x → s.heap.get? b = some o → h'.get? b = some o) → s.heap.objs.size ≤ dx → dx ≠ x →
      h'.get? x = some { cls := .ref C, dict := some dx, data := .fields #[.ref t0, .none, .none, .none, .bool false, .none] } →
      h'.Ns1 dx (fun y => if y = f then some v else none) → R (.ok (.ret .none)) { s with heap := h', toks := tk }) :
    codeAny (model prog w) A (.call (.ref fI) ⟨[.ref x, v], []⟩) R s := by
  obtain ⟨oc, od, doc, pm, an, cdv, ct, sl, p1, p2, q1, q2, q3, q4, ql, ho, hcd⟩ := T.fn
  have fo := erF_cases T.fo
  refine Att.call_fn (binds := [("self", .ref x), (f, v)]) X lim ho hcd room (BindsTo.of_eq (by rcases fo with rfl | rfl <;> first | rfl | with_unfolding_all rfl)) (by rcases fo with rfl | rfl <;> first | rfl | decide) (fun s1 IC => ?_) rfl rfl rfl
  obtain ⟨h1, tk1, rfl⟩ := IC.toInCall.same
  have k : ∀ b o, s.heap.get? b = some o → h1.get? b = some o := IC.toInCall.keep
  have hn := IC.toInCall.ns
  have X1 : K.In h1 := X.keeps k
  have hx1 := k _ _ hx
  show wpAny _ _ (execs (erB f q1 q2 q3 q4) _) _ _ _
  unfold erB
  refine wpAny_execs_cons (plainObj_wpAny_Assign_Attribute ?_)
  refine er_ld (v := v) hn (by rcases fo with rfl | rfl <;> first | rfl | with_unfolding_all rfl | kernel_rfl) (er_ld (v := .ref x) hn (by rcases fo with rfl | rfl <;> first | rfl | with_unfolding_all rfl | kernel_rfl) ?_ rfl (by rcases fo with rfl | rfl <;> rfl) (by decide)) rfl (by rcases fo with rfl | rfl <;> rfl) (by rcases fo with rfl | rfl <;> decide)
  refine PySem.W.set_plain X1 (ox := excO C t0) (od := none) ⟨hx1, rfl, rfl, trivial⟩ T.sa ?_
  refine er_store T X1 hx1 fun h3 tk3 dx k3 dn dne hx3 hn3 => ?_
  have z : s.heap.objs.size < h1.objs.size := hn.lt
  exact wpAny_execs_nil (hq h3 tk3 dx (fun b o hb e => k3 b o hb (k b o e)) (Nat.le_of_lt (Nat.lt_of_lt_of_le z dn)) dne hx3 hn3)
theorem er_made {v : Value} (T : ErrT K mg n f C fI) (X : K.In s.heap) (lim : s.heap.NoLimit) (room : A.depth + 1 < recursionLimit)
    (hq : ∀ h' tk e d, ErMade s.heap h' e C d f v → R (.ok (.ret (.ref e))) { s with heap := h', toks := tk }) :
    codeAny (model prog w) A (.call (.ref C) ⟨[v], []⟩) R s := by
  obtain ⟨B, nw, ini, mr, eb, st, ei, eo⟩ := T.bx
  obtain ⟨nm, N, qn, bs, bm, hdct, sn, sub, ab, col, dd, k0, k1, k2, k3, k5, hC, hT⟩ := PySem.W.excInit_of X ei
  obtain ⟨hp, g, dr, tk, os⟩ := s
  have k : ∀ b o, hp.get? b = some o → ((hp.push (PySem.W.kdv_tup [v])).push (excO C hp.objs.size)).get? b = some o := fun b o e => Heap.get?_push_of_some _ (Heap.get?_push_of_some _ e)
  have hget : ((hp.push (PySem.W.kdv_tup [v])).push (excO C hp.objs.size)).get? (hp.objs.size + 1) = some (excO C hp.objs.size) := by heap_get
  refine PySem.HandSPX.call_own eb hT hC (PySem.W.looks_findIn X T.iC) (fun self => PySem.W.bind_fn X self T.tC) (by rw [sizeLine_eq]; exact (by decide : 1 ≤ 16777216)) ?_
  refine er_init (s := ⟨(hp.push (PySem.W.kdv_tup [v])).push (excO C hp.objs.size), g, dr, tk, os⟩) T (X.keeps k) (lim.keeps k) hget (by show A.depth + 1 < recursionLimit; exact room) fun h' tk' dx k' dn dne hx hns => ?_
  have old : ∀ b o, hp.get? b = some o → h'.get? b = some o := fun b o e => k' b o (Nat.ne_of_lt (Nat.lt_succ_of_lt (Heap.lt_size e))) (k b o e)
  have z : hp.objs.size + 1 + 1 ≤ dx := by
    have q := dn
    simp only [Heap.size_push] at q
    exact q
  exact ⟨rfl, hq h' tk' (hp.objs.size + 1) dx ⟨old, Nat.le_succ _, ⟨_, _, hx, rfl, rfl, rfl, rfl⟩, Nat.le_trans (Nat.le_trans (Nat.le_succ _) (Nat.le_succ _)) z, dne, hns⟩⟩
end
/-! ### raise C(e) -/
theorem er_rel {v : V} {u : Value} {f : Str} (r : RelV v u) (y : Str) : RelO (List.lookup y [(f, v)]) (if y = f then some u else none) := by
  by_cases h : y = f
  · subst h
    simp only [List.lookup, beq_self_eq_true, if_pos]
    exact r
  · have : (y == f) = false := by simpa using h
    simp only [List.lookup, this, if_neg h]
    trivial
def tEr (C : Addr) (f : Str) (ta : TE) : L2.St → Hp → XK → Prop := fun σ H Q => ta σ H fun v H1 => ∀ d, H1 d = none → Q (.ref C) (some d) (upd H1 d (.xd [(f, v)]))
section
variable {X : Cx} {C fI : Addr} {n f : Str}
theorem pmk_er {a : Expr} {ta : TE} {p pos : Pos} (T : ErrT X.K X.mg n f C fI) (room : X.A.depth + 1 < recursionLimit) (ha : PE X a ta) (hg : Gl X n) (hnd : (n == ("__debug__" : Str)) = false)
    (he : starEach [a] X.env = (false, eval a X.env) :: starEach [] X.env) : PMk X (.Call (.Name n p) [a] [] pos) (tEr C f ta) := by
  intro pins s σ H Q I h
  refine wpAny_Call_Name_kw (ld_glob I hg T.gC ?_ hnd)
  refine PySem.W.callWith_K (h₀ := X.base) I.ok.mod.kin T.kC ?_ he (by rfl)
  rw [he]
  show wpAny _ _ (spliced ((false, eval a X.env) :: backTo pos (starEach [] X.env))) _ _ s
  refine Calls.spliced_cons (thn (ha.run pins s σ H _ I h) fun u s1 hh => Calls.spliced_nil ?_)
  obtain ⟨v, H1, I1, rv, q1⟩ := hh
  refine ⟨I1.kIn, ?_⟩
  show wpAny _ _ (call (.ref C) [u]) _ _ _
  have lim := I1.nolimit
  obtain ⟨hp, g, dr, tk, os⟩ := s1
  refine wpAny_call (er_made T I1.kIn lim room fun h' tk' e d M => ?_)
  show MkP X pins σ Q (.ref e) ⟨h', g, dr, tk', os⟩
  obtain ⟨oe, fv, hoe, hc, hd, hdat, h1⟩ := M.obj
  have hns := M.ns
  obtain ⟨G', g1, g2⟩ := restrict h' fun b => decide (b ≠ e)
  have gk : ∀ b, b ≠ e → G'.get? b = h'.get? b := fun b hb => g1 b (decide_eq_true hb)
  have ge : G'.get? e = none := g2 e (by simp)
  have old : ∀ b o, hp.get? b = some o → G'.get? b = some o := fun b o q => (gk b (Nat.ne_of_lt (Nat.lt_of_lt_of_le (Heap.lt_size q) M.new))).trans (M.keep b o q)
  have ob : ObjOk X.prog X.w (upd H1 d (.xd [(f, v)])) G' d (.xd [(f, v)]) := ⟨_, hns.at (fun o q => (gk d M.dne).trans q), fun y => er_rel rv y⟩
  have J : Inv X pins σ (upd H1 d (.xd [(f, v)])) ⟨G', g, dr, tk', os⟩ := I1.laid (t' := tk') old M.dbig ob
  refine ⟨e, oe, fv, ⟨G', g, dr, tk', os⟩, _, .ref C, some d, rfl, J, fun b o q => ?_, ge, hoe, ⟨hc, hd⟩, hdat, h1, ?_, rfl, I1.bare, raises_own T.exC T.tyC, q1 d (I1.hok.fresh M.dbig)⟩
  · by_cases hb : b = e
    · have q' : G'.get? b = some o := q
      rw [hb, ge] at q'
      cases q'
    · exact (gk b hb).symm.trans q
  · rw [upd_ne (Ne.symm M.dne)]
    exact I1.hok.fresh M.new
end
variable {c : Stat}
/-- raise n(a), n with the one field f -/
def raiM (n f : String) (m : M D) : M Fl := bnd m fun d ρ => .err ⟨n, [(f, d)]⟩ ρ
theorem es_raise {n f : String} {C fI : Addr} {a : Expr} {m : M D} {p pos pos2 : Pos} (T : ErrT c.K c.mg (Str.ofString n) (Str.ofString f) C fI) (ha : ED c a m)
    (hg : c.sc.names.lookup (Str.ofString n) = some .globalImplicit := by kernel_rfl) (hnd : (Str.ofString n == ("__debug__" : Str)) = false := by decide) (na : ∀ env, starEach [a] env = (false, eval a env) :: starEach [] env := by intro _; rfl)
    (hk : 1 ≤ c.k := by decide) (hc : c.hot = false := by first | rfl | assumption) :
    ES c (.Raise (some (.Call (.Name (Str.ofString n) p) [a] [] pos)) none pos2) (raiM n f m) := fun G X W pa z => by
  have T' : ErrT X.K X.mg (Str.ofString n) (Str.ofString f) C fI := by rw [z.K, z.mg]; exact T
  refine ps_imp (ps_raise (z.calm hc) z.tk (pmk_er T' (by have := z.room.dp; omega) (ha G X W z) (Gn.gl (c := c) hg z) hnd (na _))) fun D σ H h => ?_
  obtain ⟨F, ρ, R, q⟩ := h
  refine ⟨F, ρ, R, ?_⟩
  unfold raiM bnd at q
  cases e : m ρ with
  | bad => rw [e] at q; exact q.elim
  | err x r => rw [e] at q; exact fun F2 H2 cls d s2 r2 x2 => q σ F2 H2 cls d s2 r2 x2
  | ok d r =>
    rw [e] at q
    intro v F1 H1 s1 R1 dv a ha
    have nF : F1 a = none := R1.fh.free ha
    have sF : Same F1 (upd F1 a (.xd [(Str.ofString f, v)])) := fun x u q => by rw [upd_ne (ne_of_none q nF)]; exact q
    refine q σ _ _ _ _ (s1.trans sF) (R1.ext (Ext.new R1.fh ha)) ⟨C, T.gC, rfl, .inr ⟨a, _, rfl, upd_same, .cons (dv.mono sF) .nil⟩⟩
end DL

/-! try with a tuple of three classes, caught by name -/
namespace DL
open PySem PySem.Spec PyProof.Rows L2
abbrev TSX := Addr → Obj → Value → Option Addr → TS
/-- what the clause wishes of an exception of the body: it is the clause's, and the suite runs -/
def w3 (K : PySem.W.Frag) (cs : List Value) (i : Nat) (ts : TSX) (D : Ends) : WX := fun cls d σ H =>
  PySem.W.exmAny K cls cs = some true ∧ ∀ (a : Addr) (oe : Obj), H a = none → Zc cls d oe → (∃ vs, oe.data = .fields vs) →
    ts a oe cls d { nx := fun σ' H' => D.nx (σ'.set i none) H', rt := D.rt, bk := fun σ' H' => D.bk (σ'.set i none) H', ct := fun σ' H' => D.ct (σ'.set i none) H' } (σ.set i (some (.ref a))) H
theorem flyZ_keeps {B h h' : Heap} {l : List Env} {e : Addr} {Z : Obj → Prop} (x : HandSPX.FlyingZ B l e Z h) (k : ∀ b o, h.get? b = some o → h'.get? b = some o) : HandSPX.FlyingZ B l e Z h' := by
  obtain ⟨f1, f2, f3, oe, ws, T, oT, ts, he, hz, hd, h1, hn, hne, hT, hdT, h3⟩ := x
  exact ⟨fun b o q => k b o (f1 b o q), f2, f3.of_keeps fun b o q _ => ⟨o, k b o q, rfl⟩, oe, ws, T, oT, ts, k _ _ he, hz, hd, h1, hn, hne, k _ _ hT, hdT, h3⟩
section
variable {X : Cx} {x1 x2 x3 n : Str} {c1 c2 c3 : Value} {i kk : Nat} {body suite : List Stmt} {b0 : Stmt} {p1 p2 p3 tp pos pos' : Pos} {tb : WX → TS} {ts : TSX}
theorem ps_try3 (hs : X.stack = X.env :: X.outer) (hf : X.env.frame = some X.env.locals) (hN : X.N.Nodup) (hi : X.N[i]? = some n) (hln : X.env.kindOf n = some .local)
    (g1 : Gl X x1 ∧ X.mg x1 = some c1 ∧ (x1 == ("__debug__" : Str)) = false) (g2 : Gl X x2 ∧ X.mg x2 = some c2 ∧ (x2 == ("__debug__" : Str)) = false) (g3 : Gl X x3 ∧ X.mg x3 = some c3 ∧ (x3 == ("__debug__" : Str)) = false)
    (hb : ∀ (W : WX) (pn : List (Addr × Obj)) (xe : Value → Shared → Prop), (∀ q ∈ X.pn, q ∈ pn) → Takes (X.tr pn xe) W → PassesOwn (model X.prog X.w) X.A X.env xe → PSs (X.tr pn xe) body (tb W))
    (hsu : ∀ (a : Addr) (oe : Obj) (cls : Value) (d : Option Addr) (pn : List (Addr × Obj)), Zc cls d oe → (∃ vs, oe.data = .fields vs) → PSs (X.suite a ((a, oe) :: pn)) (b0 :: suite) (ts a oe cls d)) :
    PS X (.Try body [.ExceptHandler (some (.Tuple [.Name x1 p1, .Name x2 p2, .Name x3 p3] kk tp)) (some n) (b0 :: suite) pos'] [] [] pos) (fun D σ H => tb (w3 X.K [c1, c2, c3] i ts D) D σ H) := by
  refine ⟨fun pins s σ H D I h => ?_⟩
  have ok := I.ok
  have hfr : X.A.frames = some (X.env :: X.outer) := by rw [ok.frames, hs]
  have hloc : Loc X.env.scope n := .inl hln
  refine wpAny_Try_except ?_
  refine wpAny_mono ((hb (w3 X.K [c1, c2, c3] i ts D) (X.pn ++ pins) (fun e sa => wpAny (model X.prog X.w) X.A (noteFrame e X.env) (fun _ sb => wpAny (model X.prog X.w) X.A (setFlight e none) (fun _ sc =>
    wpAny (model X.prog X.w) X.A (handleBy e X.env [.ExceptHandler (some (.Tuple [.Name x1 p1, .Name x2 p2, .Name x3 p3] kk tp)) (some n) (b0 :: suite) pos']) (SP X pins D) X.xe sc) X.xe sb) X.xe sa)
    (fun q hq => List.mem_append_left _ hq) (fun u s' xx => ?_) PassesOwn.looking).run [] s σ H D (I.toTry _) h) (fun f s1 hsp => ?_) (fun e s1 he => he)
  · obtain ⟨a, B, sI, pins', σ', H', cls, d, rfl, J', nb, up, sky, na, os, ag, hb1, hyes⟩ := xx
    have J : L2.Inv X pins σ' H' sI := J'.ofTry ok
    have sky' : Sky B (X.env :: X.outer) a (Zc cls d) X.env.locals s'.heap := by rw [← hs]; exact sky
    show wpAny (model X.prog X.w) X.A (noteFrame (.ref a) X.env) _ _ _
    refine Sky.land Zc.steady hfr hf sky' fun h3 fl3 up3 => ?_
    have J3 : L2.Inv X pins σ' H' { s' with heap := h3 } := J.landed nb fl3.1 (up.trans up3) os ag
    obtain ⟨oe3, vs3, he3, hz3, hd3⟩ := fl3.there
    have nfr : a ∉ frs (X.env :: X.outer) := fun hm => by
      obtain ⟨_, o', e', hnf⟩ := fl3.2.2.1.mem hm
      rw [he3] at e'
      cases e'
      exact hnf _ hd3
    have nL : a ≠ X.env.locals := fun z => nfr (List.mem_filterMap.mpr ⟨X.env, List.mem_cons_self, by rw [hf, z]⟩)
    have nF : a ∉ X.fs := fun hm => by
      obtain ⟨e, he, q⟩ := List.mem_filterMap.mp hm
      exact nfr (List.mem_filterMap.mpr ⟨e, List.mem_cons_of_mem _ he, q⟩)
    have S3 := J3.suite he3 hd3 na nL nF
    refine wpAny_handleBy_cons (codeAny_handlers_test ?_) (by intro q; cases q)
    have LT : PySem.W.Looks (model X.prog X.w) h3 (typeOf (.ref a)) cls := fun A Q E s k q => wpAny_typeOf_ref (k _ _ he3) (by rw [hz3.1]; exact q)
    have nm : ∀ {x : Str} {c : Value} {p : Pos} {Q : Value → Shared → Prop} {E : Value → Shared → Prop}, (Gl X x ∧ X.mg x = some c ∧ (x == ("__debug__" : Str)) = false) → Q c { s' with heap := h3 } → wpAny (model X.prog X.w) (X.A.mark (some (.ref a))) (eval (.Name x p) X.env) Q E { s' with heap := h3 } :=
      fun {x c p Q E} g q => ld_glob (X := X.suite a ((a, oe3) :: (X.pn ++ pins))) S3 g.1 g.2.1 q g.2.2
    refine wpAny_Tuple (wpAny_items_cons (nm g1 (wpAny_items_cons (nm g2 (wpAny_items_cons (nm g3 (wpAny_items_nil ⟨by size_fits, ?_⟩)))))))
    have kp : ∀ q o, h3.get? q = some o → (h3.push { cls := .type "tuple", data := .seq [c1, c2, c3].toArray }).get? q = some o := fun _ _ z => Heap.get?_push_of_some _ z
    refine (PySem.W.exm_tup3 (J3.kIn.keeps kp) (LT.keeps kp) (Heap.get?_push_size h3 rfl) hb1).here ?_
    have fl3' := flyZ_keeps fl3 kp
    refine codeAny_handlers_suite_as ?_
    refine HandSPX.lands_againZ fl3' fun h4 fl4 up4 => ?_
    have J4 := J.landed (s' := { s' with heap := h4 }) nb fl4.1 (((up.trans up3).trans (Heap.UpToSlots.of_keeps kp)).trans up4) os ag
    obtain ⟨oe4, vs4, he4, hz4, hd4⟩ := fl4.there
    have S4 := J4.suite he4 hd4 na nL nF
    refine store_ok (X := X.suite a ((a, oe4) :: (X.pn ++ pins))) (v := .ref a) S4 hN hi hloc rfl (fun s5 S5 => ?_) (.inr hln)
    refine wpAny_mono ((hsu a oe4 cls d (X.pn ++ pins) hz4 ⟨_, hd4⟩).run [] s5 _ H' _ S5 (hyes a oe4 na hz4 ⟨_, hd4⟩)) (fun f s6 hsp => ?_) (fun _ _ z => False.elim z)
    have fin : ∀ {σ6 : L2.St} {H6 : Hp} {Q : Shared → Prop}, L2.Inv (X.suite a ((a, oe4) :: (X.pn ++ pins))) [] σ6 H6 s6 → (∀ s7, L2.Inv X pins (σ6.set i none) H6 s7 → Q s7) →
        wpAny (model X.prog X.w) X.A (do bindName X.env n .none; unbindBehindTheSuite X.env n pos') (fun _ s7 => Q s7) X.xe s6 := fun {σ6 H6 Q} S6 hq => gone_ok (S6.unsuite ok) hN hi hln hq
    cases f with
    | next => exact let ⟨σ6, H6, S6, q6⟩ := hsp; fin S6 fun s7 J7 => ⟨_, _, J7, q6⟩
    | brk => exact let ⟨σ6, H6, S6, q6⟩ := hsp; fin S6 fun s7 J7 => ⟨_, _, J7, q6⟩
    | cont => exact let ⟨σ6, H6, S6, q6⟩ := hsp; fin S6 fun s7 J7 => ⟨_, _, J7, q6⟩
    | ret u => exact let ⟨v6, σ6, H6, S6, r6, q6⟩ := hsp; fin S6 fun s7 J7 => ⟨_, _, _, J7, r6, q6⟩
  · cases f with
    | next =>
      obtain ⟨σ', H', J', q⟩ := hsp
      exact wpAny_execs_nil ⟨σ', H', J'.ofTry ok, q⟩
    | brk => exact let ⟨σ', H', J', q⟩ := hsp; ⟨σ', H', J'.ofTry ok, q⟩
    | cont => exact let ⟨σ', H', J', q⟩ := hsp; ⟨σ', H', J'.ofTry ok, q⟩
    | ret u => exact let ⟨v, σ', H', J', r, q⟩ := hsp; ⟨v, σ', H', J'.ofTry ok, r, q⟩
end
end DL

/-! defs that are handed the exception in hand -/
namespace DL
open PySem PySem.Spec PyProof.Rows L2
section
variable (b : Base)
/-- what such a def makes of the exception -/
def spX (g : Xc → Option D) (p : Addr × Obj) (H : Hp) (Q : VK) : Prop :=
  ∃ (F : Hp) (x : Xc) (cls : Value) (d : Option Addr), Same F H ∧ TbOk b.T F H ∧ Zc cls d p.2 ∧ (∃ vs, p.2.data = .fields vs) ∧ XRel b.mg b.K F cls d x ∧
    ∃ r, g x = some r ∧ ∀ v F' H', Fin b F H [] [] [] F' H' → Dn b.K b.mg F' v r → Q v H'
structure FnX (k : Nat) (f : Addr) (fd : FuncData) (pr : Str) (g : Xc → Option D) : Prop where
  run : ∀ (A : Around) (outer : List Env) (s : Shared) (H : Hp) (args : Args) (Q : VK) (p : Addr × Obj), L2H.RoomH k A → A.guards = some [] → L2H.PinOk outer H s p →
    Env0 b.P b.w b.K b.mg b.base A outer s H → BindsTo s fd args [(pr, .ref p.1)] → spX b g p H Q →
    codeAny (model b.P b.w) A (.call (.ref f) args) (CR (L2.CX b.P b.w) outer b.P b.w H s Q (fun _ _ _ => False)) s
def stX (N : List Str) (sc : Scope) (k : Nat) (p : Addr × Obj) : Stat := { b with N := N, sc := sc, raw := sc, k := k, np := 1, hot := true, xe := some p }
end
def fnX (n : Nat) (m : M Fl) : Xc → Option D := fun x => match m (.xc x :: List.replicate (n - 1) .un) with
  | .ok (.rt d) _ => some d
  | _ => none
section
variable {b : Base}
theorem rel_entryX {F H : Hp} {N : List Str} {p : Addr × Obj} {x : Xc} {cls : Value} {d : Option Addr} (s : Same F H) (t : TbOk b.T F H) (hz : Zc cls d p.2) (hf : ∃ vs, p.2.data = .fields vs) (xr : XRel b.mg b.K F cls d x) (hN : 1 ≤ N.length) :
    Rel b.K b.mg ⟨b.T, some p⟩ ⟨F, H, []⟩ F H (L2.start N [.ref p.1]) (.xc x :: List.replicate (N.length - 1) .un) where
  f0 := Same.refl _
  fh := s
  kept := fun _ _ h _ _ => h
  par := fun _ q => nomatch q
  fz := fun i d h => by
    cases i with
    | zero => cases h
    | succ i =>
      rw [List.getElem?_cons_succ, List.getElem?_replicate] at h
      split at h <;> cases h
  ow := fun i d h => by
    cases i with
    | zero => cases h
    | succ i =>
      rw [List.getElem?_cons_succ, List.getElem?_replicate] at h
      split at h <;> cases h
  ne := fun i j a d e _ h _ _ => by
    cases i with
    | zero => cases h
    | succ i =>
      rw [List.getElem?_cons_succ, List.getElem?_replicate] at h
      split at h <;> cases h
  len := by
    unfold L2.start
    simp
  pw := fun _ q => nomatch q
  fn := fun _ _ => rfl
  tbs := fun _ ps h => ⟨ps, h⟩
  tb := t
  xc := fun i y h => by
    cases i with
    | zero =>
      cases h
      exact ⟨p, cls, d, rfl, start_get (vs := [.ref p.1]) rfl, hz, hf, xr⟩
    | succ i =>
      rw [List.getElem?_cons_succ, List.getElem?_replicate] at h
      split at h <;> cases h
theorem finX {F H F' H' : Hp} {xt : Xt} {σ' : L2.St} {ρ' : En} (ht : xt.T = b.T) (s : Same F F') (R : Rel b.K b.mg xt ⟨F, H, []⟩ F' H' σ' ρ') : Fin b F H [] [] [] F' H' where
  ff := s
  fh := R.fh
  nn := fun x hx => R.fn x hx
  tbs := fun x ps h => R.tbs x ps h
  tb := by rw [← ht]; exact R.tb
  kept := fun x o h1 ht _ => R.kept x o h1 ht fun _ q => nomatch q
  io := fun k i e h1 _ => by simp at h1
theorem fnx_ok {x qual pr : Str} {st : Stmt} {f : Addr} {fd : FuncData} {N : List Str} {k : Nat} {m : M Fl} (Fn : Fun b.K x qual st f fd) (S : FnScope N [pr] (defScope st))
    (h : ∀ p, ESs (stX b N (defScope st) k p) (defBody st) m) : FnX b (k + 1) f fd pr (fnX N.length m) := by
  obtain ⟨oc, od, kV, doc, pm, an, cdv, ct, osl, rfl, lk, hcd⟩ := Fn.ex
  refine ⟨fun A outer s H args Q p hr hg hpin e0 hb hsp => ?_⟩
  have old : ∀ b' o, b.base.get? b' = some o → s.heap.get? b' = some o := fun b' o e => (e0.bs b' o e).1
  have KX : b.K.In s.heap := e0.mod.kin.keeps old
  have hN : 1 ≤ N.length := by
    have := congrArg List.length S.pre
    rw [List.length_take] at this
    simp at this
    omega
  refine codeAny_call_function hr.depth (KX _ _ lk) rfl S.co S.gen rfl (PySem.W.codeRec_of KX hcd) (hb _ _ _ _ ?_)
  refine wpAny_newFunctionEnv_cells S.kind (fun ⟨n, v⟩ hy => (S.par n (List.of_mem_zip (l₁ := [pr]) (l₂ := [Value.ref p.1]) hy).1).imp id fun q => ⟨q, PySem.W.cellsFrom_some _ _ _ (.inl q)⟩) fun env he s1 xx => ?_
  subst he
  refine ⟨(e0.mod.nolimit.keeps old).keeps xx.toInCall.keep, codeAny_func ?_⟩
  have I := L2H.inv_startH (CX := L2.CX b.P b.w) (E := fun _ _ _ => False) (vs := [V.ref p.1]) S hpin e0 rfl (.cons rfl .nil) xx
  obtain ⟨F, y, cls, d, sm, tb, hz, hf, xr, r, hgr, q⟩ := hsp
  have R := rel_entryX (N := N) sm tb hz hf xr hN
  have ht := h p ⟨F, H, []⟩ (L2H.cxH (L2.CX b.P b.w) b.P b.w b.K b.mg b.base N qual (defScope st) f cdv A outer s H (fun _ _ _ => False) p) (fun _ _ _ _ => False) (fun _ q => nomatch q)
    { P := rfl, w := rfl, K := rfl, mg := rfl, base := rfl, N := rfl, sc := rfl, nd := S.nd, fnc := fun _ _ => rfl, calm := (fun e => nomatch e), lm := (fun _ _ e => nomatch e), room := hr.deeper _, hd := (fun e => nomatch e), xp := (fun q e => by cases e; exact List.mem_singleton.mpr rfl), xh := (fun e => nomatch e), gd := hg, fr := (fun e => nomatch e), tk := LamX.takes0, po := passes_of rfl }
  refine wpAny_mono (ht.run [] s1 (L2.start N [.ref p.1]) H { nx := fun _ H' => Q .non H', rt := Q } I ⟨F, _, R, ?_⟩) (fun fl s' hs => ?_) fun e s' hs => hs
  · unfold fnX at hgr
    cases e : m (.xc y :: List.replicate (N.length - 1) .un) with
    | bad => rw [e] at hgr; cases hgr
    | err x ρ' => rw [e] at hgr; cases hgr
    | ok fl ρ' =>
      rw [e] at hgr
      cases fl with
      | rt d' =>
        cases hgr
        exact fun v σ' F' H' s' R' rv => q v F' H' (finX rfl s' R') rv
      | _ => cases hgr
  cases fl with
  | ret u => obtain ⟨v, σ', H', J, rv, q⟩ := hs; exact ⟨v, H', J.os, J.bare, J.base, J.hok, rv, q⟩
  | next => obtain ⟨σ', H', J, q⟩ := hs; exact ⟨V.non, H', J.os, J.bare, J.base, J.hok, rfl, q⟩
  | brk => obtain ⟨_, _, _, q⟩ := hs; exact q.elim
  | cont => obtain ⟨_, _, _, q⟩ := hs; exact q.elim
end
end DL

/-! the exception in hand: isinstance, its field, handed on -/
namespace DL
open PySem PySem.Spec PyProof.Rows L2
/-- what an own class of errors must be for isinstance and for a field to be read -/
structure ExcF (K : PySem.W.Frag) (C : Addr) (f : Str) : Prop where
  ga : PySem.W.findIn K (.ref C) "__getattribute__" = some (some (.builtin "BaseException.__getattribute__"))
  gg : PySem.W.findIn K (.ref C) "__getattr__" = some none
  sb : PySem.W.subIn K (.ref C) (.type "BaseException") = some true
  ca : PySem.W.findIn K (.ref C) "__class__" = some (some (.builtin "object.__class__"))
  sp : PySem.W.specialIn K (.builtin "object.__class__") "__get__" = some (some (.builtin "getset_descriptor.__get__"))
  tk : PySem.W.takesIn K (.builtin "object.__class__") = some true
  mo : PySem.W.mroIn K C (.type "object") = some true
  hd : PySem.W.hasDictIn K C = true
  no : PySem.W.findIn K (.ref C) f = some none
abbrev ErTab := List (String × String × List String)
/-- rows of classes: name, field, all that it is -/
structure ExT (b : Base) (tb : ErTab) (own bt : List String) : Prop where
  f : ∀ r ∈ tb, ∀ C, b.mg (Str.ofString r.1) = some (.ref C) → ExcF b.K C (Str.ofString r.2.1)
  ow : ∀ r ∈ tb, ∀ t ∈ own, ∀ C T, b.mg (Str.ofString r.1) = some (.ref C) → b.mg (Str.ofString t) = some (.ref T) → PySem.W.kitOne b.K (.ref C) (.ref T) = some (r.2.2.contains t)
  bt : ∀ r ∈ tb, ∀ t ∈ bt, ∀ C, b.mg (Str.ofString r.1) = some (.ref C) → PySem.W.kitOne b.K (.ref C) (.type t) = some (r.2.2.contains t)
def erOf (tb : ErTab) (c : String) : Option (String × String × List String) := tb.find? fun r => r.1 == c
theorem erOf_some {tb : ErTab} {c : String} {r : String × String × List String} (h : erOf tb c = some r) : r ∈ tb ∧ r.1 = c :=
  ⟨List.mem_of_find?_eq_some h, by simpa using List.find?_some h⟩
def dIsX (tb : ErTab) (own bt : List String) (x : Xc) : D → Option D
  | .gl t => if own.contains t then (erOf tb x.c).map fun r => .bl (r.2.2.contains t) else none
  | .ty t => if bt.contains t then (erOf tb x.c).map fun r => .bl (r.2.2.contains t) else none
  | _ => none
/-- the exception in slot i -/
def xcAt {α : Type} (i : Nat) (m : Xc → M α) : M α := fun ρ => match ρ[i]? with
  | some (.xc x) => m x ρ
  | _ => .bad
def isX (tb : ErTab) (own bt : List String) (i : Nat) (a : M D) : M D := xcAt i fun x => bnd a fun k => lift (dIsX tb own bt x k)
def dFldX (tb : ErTab) (f : String) (x : Xc) : Option D := (erOf tb x.c).bind fun r => if r.2.1 = f then lookF f x.fs else none
def fldX (tb : ErTab) (i : Nat) (f : String) : M D := xcAt i fun x => lift (dFldX tb f x)
def calX (g : Xc → Option D) (i : Nat) : M D := xcAt i fun x => lift (g x)
section
variable {c : Stat}
theorem inst_xc {X : Cx} {F H : Hp} {pins : List (Addr × Obj)} {σ : L2.St} {s : Shared} {p : Addr × Obj} {cls : Value} {d : Option Addr} {x : Xc} {mg : Str → Option Value} {K : PySem.W.Frag} (I : Inv X pins σ H s) (hp : p ∈ X.pn) (hz : Zc cls d p.2) (hf : ∃ vs, p.2.data = .fields vs) (xr : XRel mg K F cls d x) (sF : Same F H) :
    ∃ C od, mg (Str.ofString x.c) = some (.ref C) ∧ PySem.W.InstAt s.heap p.1 p.2 C od := by
  obtain ⟨C, h1, h2, h3⟩ := xr
  obtain ⟨hget, _⟩ := I.pin p (List.mem_append_left _ hp)
  obtain ⟨vs, hv⟩ := hf
  have q1 : p.2.cls = .ref C := hz.1.trans h2
  have nc : PySem.W.notCls p.2 := by unfold PySem.W.notCls; rw [hv] <;> trivial
  rcases h3 with ⟨_, h3⟩ | ⟨dd, ws, h3, h4, h5⟩
  · exact ⟨C, none, h1, hget, q1, nc, by rw [hz.2, h3] <;> trivial⟩
  · have hx : ObjOk X.prog X.w H s.heap dd (.xd ws) := I.hok dd _ (sF _ _ h4)
    obtain ⟨mA, hns, hr⟩ := hx
    obtain ⟨od, ho, hl⟩ := lookIn_ns hns
    exact ⟨C, some od, h1, hget, q1, nc, by rw [hz.2, h3]; exact ho⟩
def rIsX (X : Cx) : List V → Hp → VK → Prop := fun xs H Q => ∃ (p : Addr × Obj) (x : Xc) (F : Hp) (cls : Value) (d : Option Addr) (C : Addr) (f : Str) (v : V) (cv : Value) (b : Bool), xs = [.ref p.1, v] ∧ p ∈ X.pn ∧ Zc cls d p.2 ∧ (∃ vs, p.2.data = .fields vs) ∧ XRel X.mg X.K F cls d x ∧ Same F H ∧
  X.mg (Str.ofString x.c) = some (.ref C) ∧ ExcF X.K C f ∧ (∀ u, RelV v u → u = cv) ∧ PySem.W.kitOne X.K (.ref C) cv = some b ∧ Q (.bl b) H
theorem call_isX {X : Cx} : CallR X (.builtin "isinstance") (rIsX X) := by
  intro pins s σ H xs us Q I r h
  obtain ⟨p, x, F, cls, d, C, f, v, cv, b, rfl, hp, hz, hf, xr, sF, hC, T, hcv, e, q⟩ := h
  cases r with
  | cons rx rr =>
    cases rr with
    | cons rt rr =>
      cases rr
      cases rx
      have ec := hcv _ rt
      subst ec
      obtain ⟨C', od, h1, J⟩ := inst_xc I hp hz hf xr sF
      rw [hC] at h1
      cases h1
      have hcl : (PySem.W.clsIn X.K C).isSome = true := by
        obtain ⟨cd, hc, _⟩ := PySem.W.any_some T.hd
        rw [hc] <;> rfl
      exact PySem.W.kia_one (PySem.W.kitx_exc hcl T.ga T.gg T.sb T.ca T.sp T.tk T.mo) I.kIn J e (fun z => nomatch z) fun tk => ⟨.bl b, H, I.kept (t' := tk) fun _ _ z => z, rfl, q⟩
theorem ed_isX {tb : ErTab} {own bt : List String} {i : Nat} {x y : Str} {e : Expr} {f : M D} {p p2 pos : Pos} (T : ExT c.toBase tb own bt) (hx : x = "isinstance") (hg : Gn c x) (hm : c.mg x = none) (hN : c.N[i]? = some y) (hv : Vis c.sc y) (ha : ED c e f) (hd : (y == ("__debug__" : Str)) = false := by decide) (hcd : (y == ("__classdict__" : Str)) = false := by decide)
    (he : ∀ env, starEach [e] env = [(false, eval e env)] := by intro _; rfl) (hpl : ∀ env, (backTo pos (starEach [e] env)).any (·.1) = false := by intro _; rfl) : ED c (.Call (.Name x p) [.Name y p2, e] [] pos) (isX tb own bt i f) := fun G X W z => by
  subst hx
  have pv : PE X (.Name y p2) (tVar i) := pe_var (i := i) (by rw [z.N]; exact hN) (by rw [z.sc]; exact hv) hd hcd
  refine pe_imp (pe_callB call_isX (hg.gl z) (by rw [z.mg]; exact hm) bt_isinstance (pa_cons pv (pa_cons (ha G X W z) pa_nil (he _))) (by decide) (by decide) rfl (hpl _)) fun σ H Q ⟨F, ρ, R, q⟩ => ?_
  unfold isX xcAt at q
  split at q
  case h_2 => exact q.elim
  rename_i x hxc
  obtain ⟨p0, cls, d, k1, k2, k3, k4, k5⟩ := R.xc i x hxc
  refine ⟨_, k2, ?_⟩
  refine tG_bind R q fun F1 H1 ρ1 v dv s1 R1 rv q1 => ?_
  obtain ⟨dd, e1, af⟩ := q1.lift R1
  obtain ⟨C, h1, h2, h3⟩ := k5.mono s1
  have fin : ∀ {r : String × String × List String} {cv : Value} {b : Bool}, r ∈ tb → r.1 = x.c → (∀ u, RelV v u → u = cv) → PySem.W.kitOne c.K (.ref C) cv = some b → Q (.bl b) H1 → rIsX X [.ref p0.1, v] H1 Q := fun {r cv b} hr he hcv hk hq =>
    ⟨p0, x, F1, cls, d, C, _, v, cv, b, rfl, z.xp p0 k1, k3, k4, by rw [z.mg, z.K]; exact k5.mono s1, R1.fh, by rw [z.mg]; exact h1, by rw [z.K]; exact T.f r hr C (by rw [he]; exact h1), hcv, by rw [z.K]; exact hk, hq⟩
  cases rv <;> simp only [dIsX] at e1 <;> try cases e1
  · rename_i t
    split at e1
    case isFalse => cases e1
    rename_i ht
    obtain ⟨r, hr, rfl⟩ := Option.map_eq_some_iff.mp e1
    obtain ⟨hr1, hr2⟩ := erOf_some hr
    exact fin hr1 hr2 (cv := .type t) (fun u hu => hu) (T.bt r hr1 t (List.contains_iff_mem.mp ht) C (by rw [hr2]; exact h1)) (af.here R1.fh (.bl _))
  · rename_i t a hT
    split at e1
    case isFalse => cases e1
    rename_i ht
    obtain ⟨r, hr, rfl⟩ := Option.map_eq_some_iff.mp e1
    obtain ⟨hr1, hr2⟩ := erOf_some hr
    exact fin hr1 hr2 (cv := .ref a) (fun u hu => hu) (T.ow r hr1 t (List.contains_iff_mem.mp ht) C a (by rw [hr2]; exact h1) hT) (af.here R1.fh (.bl _))
theorem ed_fldX {tb : ErTab} {own bt : List String} {i : Nat} {y : Str} {f : String} {p2 pos : Pos} (T : ExT c.toBase tb own bt) (hN : c.N[i]? = some y) (hv : Vis c.sc y) (hd : (y == ("__debug__" : Str)) = false := by decide) (hcd : (y == ("__classdict__" : Str)) = false := by decide) :
    ED c (.Attribute (.Name y p2) (Str.ofString f) pos) (fldX tb i f) := fun G X W z => by
  have pv : PE X (.Name y p2) (tVar i) := pe_var (i := i) (by rw [z.N]; exact hN) (by rw [z.sc]; exact hv) hd hcd
  refine ⟨fun pins s σ H Q I ⟨F, ρ, R, q⟩ => ?_⟩
  unfold fldX xcAt at q
  split at q
  case h_2 => exact q.elim
  rename_i x hxc
  obtain ⟨p0, cls, d, k1, k2, k3, k4, k5⟩ := R.xc i x hxc
  obtain ⟨d', e1, af⟩ := q.lift R
  obtain ⟨r, hr, e2⟩ := Option.bind_eq_some_iff.mp e1
  obtain ⟨hr1, hr2⟩ := erOf_some hr
  split at e2
  case isFalse => cases e2
  rename_i hf
  refine attr_of rfl (thn (pv.run pins s σ H (fun v H1 => v = .ref p0.1 ∧ H1 = H) I ⟨_, k2, rfl, rfl⟩) fun u s1 hh => ?_)
  obtain ⟨v, H1, I1, rx, ev, eH⟩ := hh
  subst ev
  rw [eH] at I1
  obtain rfl : u = Value.ref p0.1 := rx
  obtain ⟨C, h1, h2, h3⟩ := k5
  have T1 : ExcF X.K C (Str.ofString f) := by
    rw [z.K, ← hf]; exact T.f r hr1 C (by rw [hr2]; exact h1)
  rcases h3 with ⟨h3, _⟩ | ⟨dd, ws, h3, h4, h5⟩
  · rw [h3] at e2; cases e2
  obtain ⟨w', l, rw'⟩ := dfs_look h5 e2
  obtain ⟨hget, _⟩ := I1.pin p0 (List.mem_append_left _ (z.xp p0 k1))
  obtain ⟨vs, hdt⟩ := k4
  have hx : ObjOk X.prog X.w H s1.heap dd (.xd ws) := I1.hok dd _ (R.fh _ _ h4)
  obtain ⟨mA, hns, hr⟩ := hx
  obtain ⟨od, ho, hl⟩ := lookIn_ns hns
  obtain ⟨u', hu, ru⟩ := RelO.some_of (v := w') (o := mA (Str.ofString f)) (by rw [← l]; exact hr _)
  have J : PySem.W.InstAt s1.heap p0.1 p0.2 C (some od) := ⟨hget, k3.1.trans h2, by unfold PySem.W.notCls; rw [hdt] <;> trivial, by rw [k3.2, h3]; exact ho⟩
  exact HandSPX.exc_get I1.kIn J T1.ga T1.gg T1.sb (PySem.W.findObj_own T1.hd T1.no rfl (by rw [hl, hu])) (handed_of ru) ⟨w', H, I1.tok _, ru, af.here R.fh rw'⟩
/-- a def that is handed the exception -/
structure CalX (b : Base) (k : Nat) (x : Str) (g : Xc → Option D) : Prop where
  ex : ∃ f fd pr, FnX b k f fd pr g ∧ b.mg x = some (.ref f) ∧ PySem.W.keepIn b.K (.ref f) = true ∧ Binds b.K fd [pr] []
theorem ed_calX {k i : Nat} {x y : Str} {g : Xc → Option D} {p p2 pos : Pos} (cl : CalX c.toBase k x g) (hk : k ≤ c.k) (hg : Gn c x) (hN : c.N[i]? = some y) (hv : Vis c.sc y) (hdb : (x == ("__debug__" : Str)) = false := by decide) (hd : (y == ("__debug__" : Str)) = false := by decide) (hcd : (y == ("__classdict__" : Str)) = false := by decide) :
    ED c (.Call (.Name x p) [.Name y p2] [] pos) (calX g i) := fun G X W z => by
  obtain ⟨fa, fd, pr, Fn, hm, kp, hb⟩ := cl.ex
  have pv : PE X (.Name y p2) (tVar i) := pe_var (i := i) (by rw [z.N]; exact hN) (by rw [z.sc]; exact hv) hd hcd
  refine ⟨fun pins s σ H Q I ⟨F, ρ, R, q⟩ => ?_⟩
  unfold calX xcAt at q
  split at q
  case h_2 => exact q.elim
  rename_i xx hxc
  obtain ⟨p0, cls, d, k1, k2, k3, k4, k5⟩ := R.xc i xx hxc
  dsimp only at q
  cases hgx : g xx with
  | none => rw [hgx] at q; exact q.elim
  | some r =>
  rw [hgx] at q
  refine wpAny_Call_Name_kw (ld_glob I (hg.gl z) (by rw [z.mg]; exact hm) ?_ hdb)
  refine PySem.W.callWith_K (h₀ := X.base) I.ok.mod.kin (by rw [z.K]; exact kp) (thn ((pa_cons pv pa_nil (by rfl)).run pos pins s σ H (fun vs H1 => vs = [.ref p0.1] ∧ H1 = H) I ⟨_, k2, rfl, rfl⟩) fun us s1 hh => ?_) (by rfl) (by rfl)
  obtain ⟨vs, H1, I1, rx, ev, eH⟩ := hh
  subst ev
  rw [eH] at I1
  refine ⟨I1.kIn, ?_⟩
  cases rx with
  | cons rx rr =>
  cases rr
  cases rx
  have hpm := z.xp p0 k1
  have P1 := I1.pin p0 (List.mem_append_left _ hpm)
  have hpin : L2H.PinOk X.stack H s1 p0 := ⟨P1.1, P1.2.1, fun hm => (List.mem_cons.mp (I1.stkSub p0.1 hm)).elim P1.2.2.1 P1.2.2.2.1, P1.2.2.2.2⟩
  have bb := hb s1 [.ref p0.1] (by rw [← z.K]; exact I1.kIn) (by rfl)
  rw [List.append_nil] at bb
  have run := Fn.run X.A X.stack s1 H ⟨[.ref p0.1], []⟩ Q p0 (z.room.mono hk) z.gd hpin (by rw [← z.P, ← z.w, ← z.K, ← z.mg, ← z.base]; exact I1.env0) bb ⟨F, xx, cls, d, R.fh, R.tb, k3, k4, k5, r, hgx, fun v F' H' f rv => q v F' H' f.ff (R.fin f) rv⟩
  rw [← z.P, ← z.w] at run
  refine wpAny_call (codeAny_mono run fun r s' hq => ?_)
  cases r with
  | error e => exact (show False from by
      obtain ⟨_, _, _, _, _, _, _, _, _, _, _, _, h⟩ := hq
      exact h).elim
  | ok fl =>
    cases fl with
    | ret u => exact I1.after hq
    | next => exact hq.elim
    | brk => exact hq.elim
    | cont => exact hq.elim
end
end DL

/-! a def that calls what it is handed within a try; a lambda handed to it -/
namespace DL
open PySem PySem.Spec PyProof.Rows L2
/-! ### a lambda is made: its table alone may grow -/
section
variable {X : Cx} {pins : List (Addr × Obj)} {σ : L2.St} {H : Hp} {s : Shared}
abbrev lq (X : Cx) : Str := X.env.qual ++ "<lambda>"
abbrev lamO (X : Cx) (prm : Arguments) (bd : Expr) (sco : Scope) (pm : Value) (c1 : Addr) (ctv : Value) : Obj := PySem.W.kla_obj "<lambda>" (lq X) prm bd sco (cloFrom X.env.cells sco.names []) pm c1 ctv
theorem lam_made {c P : Addr} {prm : Arguments} {bd : Expr} {sco : Scope} {lp : Pos} {EE QQ : Value → Shared → Prop} (I : Inv X pins σ H s) (TB : LamX.TabB X.base X.mg c P) (cd : X.env.code = .ref c) (tb : LamX.TabS H P (lq X)) (df : defaultsOf prm X.env = ([], []))
    (fr : ∀ y ∈ sco.names, y.2 = .free → ∃ c, X.env.cells.lookup y.1 = some c)
    (k : ∀ (f c1 : Addr) (pm ctv : Value) (H1 : Hp) (s1 : Shared), Inv X pins σ H1 s1 → (∀ b o, b ≠ P → H b = some o → H1 b = some o) → LamX.TabS H1 P (lq X) → s1.heap.get? f = some (lamO X prm bd sco pm c1 ctv) → H1 f = none → f ∉ frs X.stack → H1 c1 = some (LamX.CodeO c1 (lq X)) → QQ (.ref f) s1) :
    wpAny (model X.prog X.w) X.A (eval (.Lambda prm bd sco lp) X.env) QQ EE s := by
  obtain ⟨ps, tP, t3, tc⟩ := tb
  have atP := I.hok P _ tP
  have far : ∀ f, s.heap.objs.size ≤ f → f ∉ frs X.stack := fun f hf z => (List.mem_cons.mp (I.stkSub _ z)).elim (fun e => absurd I.lt (by rw [← e]; exact Nat.not_lt.mpr hf)) fun e => I.nofs hf e
  refine PySem.W.kla_eval df ?_
  cases e0 : codeAmong lp ps.toList with
  | some cv =>
    obtain ⟨c1, rfl, hco⟩ := tc lp cv e0
    refine PySem.W.kla_makeFunctionHit (mg := X.mg) (c := c) (P := P) (ps := ps) (closure_ok fr) I.ok.glob (I.mod.glob.keeps I.bk) cd (TB.code.keeps I.bk) atP t3 e0 (TB.bm.keeps I.bk) fun ctv h1 tk ke le => ?_
    exact k _ c1 _ ctv H _ (I.kept fun b o q => Heap.get?_push_of_some _ (ke b o q)) (fun _ _ _ q => q) ⟨ps, tP, t3, tc⟩ (Heap.get?_push_size _ rfl) (I.hok.fresh le) (far _ le) hco
  | none =>
    refine PySem.W.kla_makeFunction (mg := X.mg) (c := c) (P := P) (ps := ps) (closure_ok fr) I.ok.glob (I.mod.glob.keeps I.bk) cd (TB.code.keeps I.bk) atP t3 e0 TB.gP (TB.bm.keeps I.bk) fun c1 ctv h1 tk ke le lt1 rc pt => ?_
    obtain ⟨c2, oc, vs, t, q2, hoc, hdt, hv⟩ := rc
    cases q2
    have n1 : H c1 = none := I.hok.fresh le
    have nP : P ≠ c1 := ne_of_none tP n1
    have sz : s.heap.objs.size ≤ h1.objs.size := Nat.le_trans le (Nat.le_of_lt lt1)
    have J := LamX.inv_table (t' := tk) (more := #[rawInt lp.line, rawInt lp.col, .ref c1]) (h' := h1.push (lamO X prm bd sco ((X.mg "__name__").getD .none) c1 ctv)) I tP
      (fun b o hb e => Heap.get?_push_of_some _ (ke b o hb e)) (Heap.get?_push_of_some _ pt) le ⟨oc, vs, t, Heap.get?_push_of_some _ hoc, hdt, hv⟩
    have keep : ∀ b o, b ≠ P → H b = some o → upd (upd H P (.tbl (ps ++ #[rawInt lp.line, rawInt lp.col, .ref c1]))) c1 (LamX.CodeO c1 (lq X)) b = some o := fun b o hb e => by
      rw [upd_ne (ne_of_none e n1), upd_ne hb]; exact e
    have eL : (ps ++ #[rawInt lp.line, rawInt lp.col, .ref c1]).toList = ps.toList ++ [rawInt lp.line, rawInt lp.col, .ref c1] := by simp
    refine k h1.objs.size c1 ((X.mg "__name__").getD .none) ctv _ _ J keep ⟨_, by rw [upd_ne nP, upd_same], by rw [eL]; exact PySem.TriplesOk_snoc _ _ _ _ t3, fun p' cv q => ?_⟩ (Heap.get?_push_size _ rfl) ?_ (far _ sz) upd_same
    · rw [eL] at q
      rcases LamX.among_app _ t3 q with z | z
      · obtain ⟨c0, e1, e2⟩ := tc p' cv z
        refine ⟨c0, e1, keep _ _ (fun y => ?_) e2⟩
        rw [y, tP] at e2
        exact LamX.codeO_ne ps (Option.some.inj e2).symm
      · exact ⟨c1, z, upd_same⟩
    · rw [upd_ne (Nat.ne_of_gt lt1), upd_ne (Nat.ne_of_gt (Nat.lt_of_lt_of_le (Heap.lt_size atP) sz))]
      exact I.hok.fresh sz
end
section
variable {c : Stat}
theorem Rel.lam {G : Ent} {F H H1 : Hp} {σ : L2.St} {ρ : En} {P : Addr} {q : Str} (R : Rel c.K c.mg c.xt G F H σ ρ) (hm : (P, q) ∈ c.T) (hu : ∀ p ∈ c.T, p.1 = P → p.2 = q) (k : ∀ b o, b ≠ P → H b = some o → H1 b = some o) (t : LamX.TabS H1 P q) : Rel c.K c.mg c.xt G F H1 σ ρ := by
  obtain ⟨ps, hP, _, _⟩ := R.tb.t _ hm
  have hP : H P = some (.tbl ps) := hP
  have nF : F P = none := R.tb.n _ hm
  have nt : ∀ {b o}, H b = some o → (∀ ps, o ≠ .tbl ps) → b ≠ P := fun {b o} e n z => by
    rw [z, hP] at e
    exact n ps (Option.some.inj e).symm
  exact { f0 := R.f0, par := R.par, fz := R.fz, ne := R.ne, len := R.len, pw := R.pw, fn := R.fn, xc := R.xc
          fh := fun b o e => k b o (fun z => by rw [z, nF] at e; cases e) (R.fh b o e)
          kept := fun b o h1 h2 h3 => k b o (nt (R.kept b o h1 h2 h3) h2) (R.kept b o h1 h2 h3)
          ow := fun i d e => let ⟨a, h1, h2⟩ := R.ow i d e; ⟨a, h1, ⟨h2.nf, h2.nh, h2.at_.mono' (Same.refl _) fun o ho z => k _ o (nt z ho) z⟩⟩
          tbs := fun b ps e => by
            obtain ⟨qs, z⟩ := R.tbs b ps e
            by_cases hb : b = P
            · obtain ⟨rs, y, _⟩ := t
              exact ⟨rs, by rw [hb]; exact y⟩
            · exact ⟨qs, k b _ hb z⟩
          tb := ⟨fun p hp => by
            by_cases hb : p.1 = P
            · rw [hu p hp hb, hb]; exact t
            · obtain ⟨rs, y1, y2, y3⟩ := R.tb.t p hp
              exact ⟨rs, k _ _ hb y1, y2, fun pos cv e => let ⟨c0, z1, z2⟩ := y3 pos cv e; ⟨c0, z1, k _ _ (nt z2 fun ps => LamX.codeO_ne ps) z2⟩⟩, R.tb.n⟩ }
end
/-! ### x(), in the def that got the lambda -/
section
variable {X : Cx} {pins : List (Addr × Obj)} {σ : L2.St} {H : Hp} {s : Shared}
theorem act_lam {Ng : List Str} {qg : Str} {sg sco : Scope} {g f c1 : Addr} {cdg pm ctv : Value} {prm : Arguments} {bd : Expr} {a : Str} {pn : List (Addr × Obj)} {xe : Value → Shared → Prop} {W : WX} {tb : XK → TE} {p1 p2 : Pos} {CXg : CXT} {Eg : XK} {k : Nat}
    (I : Inv X pins σ H s) (L : LamX.LamS X.env.scope sco) (hf : s.heap.get? f = some (lamO X prm bd sco pm c1 ctv)) (hfn : H f = none) (hfr : f ∉ frs X.stack)
    (hbind : bindArgs (PySem.W.kla_fn "<lambda>" (lq X) prm bd sco (cloFrom X.env.cells sco.names []) pm (.ref c1) ctv) ⟨[], []⟩ = pure [])
    (tk : Takes ((cxOf CXg X.prog X.w X.K X.mg X.base Ng qg sg g cdg X.A X.stack s H Eg).tr pn xe) W) (hr : Room (k + 1) (X.A.deeper (envOfC qg sg s.heap.objs.size g cdg)))
    (hbody : ∀ (E : XK) (s2 : Shared) (H2 : Hp), Room k ((X.A.deeper (envOfC qg sg s.heap.objs.size g cdg)).deeper (LamX.lamEnv X sco s2.heap.objs.size f c1)) → PE (LamX.lamCx X (X.A.deeper (envOfC qg sg s.heap.objs.size g cdg)) (envOfC qg sg s.heap.objs.size g cdg :: X.stack) s2 H2 E sco f c1) bd (tb E))
    (hN : Ng[0]? = some a) (hv : Vis sg a) (hd : (a == ("__debug__" : Str)) = false) (hcd : (a == ("__classdict__" : Str)) = false) :
    PE ((cxOf CXg X.prog X.w X.K X.mg X.base Ng qg sg g cdg X.A X.stack s H Eg).tr pn xe) (.Call (.Name a p1) [] [] p2)
      (fun σZ HZ Q => ∃ E : XK, (∀ cls d H', E cls d H' → W cls d σZ H') ∧ σZ[0]? = some (some (.ref f)) ∧ HZ c1 = some (LamX.CodeO c1 (lq X)) ∧ tb E σ HZ Q) := by
  refine ⟨fun pinsZ sZ σZ HZ Q IZ ⟨E, hW, hs, hc, ht⟩ => ?_⟩
  refine wpAny_Call_Name_kw (thn ((pe_var (pos := p1) (i := 0) hN hv hd hcd).run pinsZ sZ σZ HZ (fun v H1 => v = .ref f ∧ H1 = HZ) IZ ⟨.ref f, hs, rfl, rfl⟩) fun u s1 hh => ?_)
  obtain ⟨v, H1, I1, r1, ev, eH⟩ := hh
  subst ev
  rw [eH] at I1
  obtain rfl : u = Value.ref f := r1
  have of1 : s1.heap.get? f = some (lamO X prm bd sco pm c1 ctv) := I1.base.keep f _ hf hfn hfr (fun z => nomatch (show f ∈ ([] : List Addr) from z))
  refine PySem.W.callWith_F0 ⟨_, _, _, _, of1⟩ ?_
  obtain ⟨⟨oc, vs, t, hoc, hdc, hvc⟩, _, _⟩ := I1.hok c1 _ hc
  have rc : codeAny (model X.prog X.w) (X.A.deeper (envOfC qg sg s.heap.objs.size g cdg)) (.call (.ref f) ⟨[], []⟩) (CR (L2.CX X.prog X.w) (envOfC qg sg s.heap.objs.size g cdg :: X.stack) X.prog X.w HZ s1 Q E) s1 := by
    refine PySem.W.kla_callFunE hr.depth of1 rfl L.co L.gen rfl ⟨c1, oc, vs, t, rfl, hoc, hdc, hvc⟩ ?_
    rw [hbind]
    refine wpAny_pure (wpAny_newFunctionEnv (fun y hy => (L.own y hy).2) (fun y hy => absurd hy (by simp)) (fun h₁ hns hsb => ⟨I1.nolimit.fresh _ hsb, ?_⟩) L.kind)
    have kp : ∀ b o, s1.heap.get? b = some o → h₁.get? b = some o := fun b o e => hsb.extBut b o (Nat.ne_of_lt (Heap.lt_size e)) (Heap.get?_push_of_some _ e)
    have J := LamX.lam_start2 (E := E) (f := f) (c' := c1) (tk := s1.toks + ([] : List (Str × Value)).length) I L I1.env0 hr.hd I1.base hns kp
    exact PySem.W.kla_codeExpr (wpAny_mono ((hbody E s1 HZ (hr.deeper _)).run [] _ _ HZ Q J ht) (fun v s' hq => let ⟨w', H', J', rv, q⟩ := hq; ⟨w', H', J'.os, J'.bare, J'.base, J'.hok, rv, q⟩) fun e s' hq => hq)
  refine wpAny_call (codeAny_mono rc fun r s' hq => ?_)
  cases r with
  | error e => exact tk e s' (XE.of_call I1 hW hq)
  | ok fl =>
    cases fl with
    | ret u => exact I1.after hq
    | next => exact False.elim hq
    | brk => exact False.elim hq
    | cont => exact False.elim hq
end
/-! ### the def that catches -/
def un1 (n i : Nat) (s : Sl) : En := (List.replicate n .un).set i s
def catO (n i : Nat) (m : M Fl) : D → Option D := fun d => match m (un1 n i (.fz d)) with
  | .ok (.rt r) _ => some r
  | _ => none
def catX (n i : Nat) (m : M Fl) : Xc → Option D := fun x => match m (un1 n i (.xc x)) with
  | .ok (.rt r) _ => some r
  | _ => none
def cauM (tb : ErTab) (gO : D → Option D) (gX : Xc → Option D) (m : M D) : M D := fun ρ => match m ρ with
  | .ok d ρ' => (match gO d with
    | some r => .ok r ρ'
    | none => .bad)
  | .err x ρ' => if (erOf tb x.c).isSome then (match gX x with
    | some r => .ok r ρ'
    | none => .bad) else .bad
  | .bad => .bad
section
variable {b : Base}
theorem un1_get {n i j : Nat} {s t : Sl} (h : (un1 n i s)[j]? = some t) : t = .un ∨ (j = i ∧ t = s) := by
  unfold un1 at h
  by_cases hj : j = i
  · subst hj
    by_cases hl : j < n
    · rw [List.getElem?_set_self (by simpa using hl)] at h
      cases h; exact .inr ⟨rfl, rfl⟩
    · rw [List.getElem?_eq_none (by simpa using hl)] at h; cases h
  · rw [List.getElem?_set_ne (Ne.symm hj), List.getElem?_replicate] at h
    split at h
    · cases h; exact .inl rfl
    · cases h
theorem rel_un1 {F H : Hp} {n i : Nat} {σ : L2.St} {s : Sl} {xe : Option (Addr × Obj)} (sm : Same F H) (t : TbOk b.T F H) (hl : σ.length = n) (no : ∀ d, s ≠ .ow d) (hz : ∀ d, s = .fz d → ∃ v, σ[i]? = some (some v) ∧ Dn b.K b.mg F v d)
    (hx : ∀ x, s = .xc x → ∃ p cls d, xe = some p ∧ σ[i]? = some (some (.ref p.1)) ∧ Zc cls d p.2 ∧ (∃ vs, p.2.data = .fields vs) ∧ XRel b.mg b.K F cls d x) : Rel b.K b.mg ⟨b.T, xe⟩ ⟨F, H, []⟩ F H σ (un1 n i s) where
  f0 := Same.refl _
  fh := sm
  kept := fun _ _ h _ _ => h
  par := fun _ q => nomatch q
  fz := fun j d h => by
    rcases un1_get h with q | ⟨rfl, q⟩
    · cases q
    · exact hz d q.symm
  ow := fun j d h => by
    rcases un1_get h with q | ⟨rfl, q⟩
    · cases q
    · exact absurd q.symm (no d)
  ne := fun j k a d e _ h _ _ => by
    rcases un1_get h with q | ⟨rfl, q⟩
    · cases q
    · exact absurd q.symm (no d)
  len := by unfold un1; simp [hl]
  pw := fun _ q => nomatch q
  fn := fun _ _ => rfl
  tbs := fun _ ps h => ⟨ps, h⟩
  tb := t
  xc := fun j x h => by
    rcases un1_get h with q | ⟨rfl, q⟩
    · cases q
    · exact hx x q.symm
end
/-- the classes of the rows are caught by x1, x2, x3 -/
structure CaT (b : Base) (tb : ErTab) (x1 x2 x3 : Str) : Prop where
  ex : ∃ B1 B2 B3, b.mg x1 = some (.ref B1) ∧ b.mg x2 = some (.ref B2) ∧ b.mg x3 = some (.ref B3) ∧ ∀ r ∈ tb, ∀ C, b.mg (Str.ofString r.1) = some (.ref C) → PySem.W.exmAny b.K (.ref C) [.ref B1, .ref B2, .ref B3] = some true
structure CatB (b : Base) (k : Nat) (N : List Str) (a : Str) (sc : Scope) (ss : List Stmt) (tb : ErTab) (gO : D → Option D) (gX : Xc → Option D) : Prop where
  ex : ∃ (it ie : Nat) (told e x1 x2 x3 : Str) (q1 q2 q3 q4 p1 p2 p3 tp pos pos' : Pos) (kk : Nat) (b0 : Stmt) (suite rest : List Stmt) (mS mR : M Fl),
    ss = .Try [.Assign [.Name told q1] (.Call (.Name a q2) [] [] q3) q4] [.ExceptHandler (some (.Tuple [.Name x1 p1, .Name x2 p2, .Name x3 p3] kk tp)) (some e) (b0 :: suite) pos'] [] [] pos :: rest ∧
    N[0]? = some a ∧ sc.names.lookup a = some .local ∧ (a == ("__debug__" : Str)) = false ∧ (a == ("__classdict__" : Str)) = false ∧
    N[it]? = some told ∧ sc.names.lookup told = some .local ∧ 0 < it ∧ N[ie]? = some e ∧ sc.names.lookup e = some .local ∧ 0 < ie ∧
    sc.names.lookup x1 = some .globalImplicit ∧ (x1 == ("__debug__" : Str)) = false ∧ sc.names.lookup x2 = some .globalImplicit ∧ (x2 == ("__debug__" : Str)) = false ∧ sc.names.lookup x3 = some .globalImplicit ∧ (x3 == ("__debug__" : Str)) = false ∧
    CaT b tb x1 x2 x3 ∧ (∀ p, ESs (stX b N sc k p) (b0 :: suite) mS) ∧ ESs (stOf b N sc k 1) rest mR ∧ gO = catO N.length it mR ∧ gX = catX N.length ie mS
structure Cat (b : Base) (k : Nat) (x : Str) (tb : ErTab) (gO : D → Option D) (gX : Xc → Option D) : Prop where
  ex : ∃ (st : Stmt) (g : Addr) (fd : FuncData) (N : List Str) (a : Str), Fun b.K x x st g fd ∧ b.mg x = some (.ref g) ∧ PySem.W.keepIn b.K (.ref g) = true ∧ Binds b.K fd [a] [] ∧ FnScope N [a] (defScope st) ∧ CatB b k N a (defScope st) (defBody st) tb gO gX
/-- the maker's code object and its table -/
structure LamT (b : Base) (c0 : Addr) (q : Str) : Prop where
  ex : ∃ P, LamX.TabB b.base b.mg c0 P ∧ (P, q ++ "<lambda>") ∈ b.T ∧ ∀ p ∈ b.T, p.1 = P → p.2 = q ++ "<lambda>"
def stL (c : Stat) (sco : Scope) (k : Nat) : Stat := { c with sc := sco, raw := sco, k := k, hot := false, xe := none, lam := none, fr := false }
section
variable {c : Stat}
theorem cz_lam {X : Cx} {W : WX} (z : Cz c X W) (hc : c.hot = false) {sco : Scope} (L : LamX.LamS c.sc sco) {env : Env} {stk : List Env} {s2 : Shared} {H2 : Hp} {E : XK} {f c1 : Addr} {kl : Nat} (hr : Room kl ((X.A.deeper env).deeper (LamX.lamEnv X sco s2.heap.objs.size f c1))) :
    Cz (stL c sco kl) (LamX.lamCx X (X.A.deeper env) stk s2 H2 E sco f c1) (fun cls d _ H => E cls d H) where
  P := z.P
  w := z.w
  K := z.K
  mg := z.mg
  base := z.base
  N := z.N
  sc := rfl
  nd := z.nd
  fnc := fun y e => absurd rfl (L.own _ (PySem.mem_of_lookup e)).2
  calm := fun _ => rfl
  lm := fun _ _ e => nomatch e
  room := L2H.roomH_of hr
  hd := fun _ => hr.hd
  xp := fun _ e => nomatch e
  xh := fun _ => rfl
  gd := z.gd
  fr := fun e => nomatch e
  tk := takes_of rfl rfl rfl rfl
  po := passes_of rfl
theorem ed_cau {k kl : Nat} {x q : Str} {c0 : Addr} {tb : ErTab} {gO : D → Option D} {gX : Xc → Option D} {m : M D} {prm : Arguments} {bd : Expr} {sco : Scope} {p lp pos : Pos} (cl : Cat c.toBase k x tb gO gX) (hlm : c.lam = some (q, c0)) (LT : LamT c.toBase c0 q) (hk : k + 1 ≤ c.k) (hkl : kl + 2 ≤ c.k) (hg : Gn c x)
    (L : LamX.LamS c.sc sco) (hm : ED (stL c sco kl) bd m) (hdef : ∀ env, defaultsOf prm env = ([], [])) (hbind : ∀ (q : Str) (cl : List (Str × Addr)) (pm cv ctv : Value), bindArgs (PySem.W.kla_fn "<lambda>" q prm bd sco cl pm cv ctv) ⟨[], []⟩ = pure [])
    (hdb : (x == ("__debug__" : Str)) = false := by decide) (hc : c.hot = false := by first | rfl | assumption) : ED c (.Call (.Name x p) [.Lambda prm bd sco lp] [] pos) (cauM tb gO gX m) := fun G X W z => by
  obtain ⟨st, g, fd, N, a, Fn, hmg, kp, hb, S, B⟩ := cl.ex
  obtain ⟨it, ie, told, e, x1, x2, x3, q1, q2, q3, q4, p1, p2, p3, tp, pos1, pos2, kk, b0, suite, rest, mS, mR, hss, ha0, hsa, ha1, ha2, ht0, hst, hit, he0, hse, hie, g1, d1, g2, d2, g3, d3, CT, hS, hR, rfl, rfl⟩ := B.ex
  obtain ⟨oc, od, kV, doc, pm, an, cdv, ct, osl, rfl, lk, hcd⟩ := Fn.ex
  obtain ⟨P, TB, hmT, hu⟩ := LT.ex
  obtain ⟨hq, hcode⟩ := z.lm q c0 hlm
  obtain ⟨B1, B2, B3, m1, m2, m3, hex⟩ := CT.ex
  have L' : LamX.LamS X.env.scope sco := by rw [z.sc]; exact L
  have hr := z.cold hc
  have ext : c.xt = ⟨c.T, none⟩ := by unfold Stat.xt; rw [z.xh hc]
  subst hq
  refine ⟨fun pins s σ H Q I ⟨F, ρ, R, qq⟩ => ?_⟩
  refine wpAny_Call_Name_kw (ld_glob I (hg.gl z) (by rw [z.mg]; exact hmg) ?_ hdb)
  refine PySem.W.callWith_K (h₀ := X.base) I.ok.mod.kin (by rw [z.K]; exact kp) ?_ (by rfl) (by rfl)
  show wpAny _ _ (spliced ((false, eval (.Lambda prm bd sco lp) X.env) :: backTo pos (starEach [] X.env))) _ _ s
  refine Calls.spliced_cons (lam_made I (by rw [z.base, z.mg]; exact TB) hcode (R.tb.t _ hmT) (hdef _) (L'.has I.ok) fun f c1 pm' ctv H1 s1 I1 kk1 T1 hf hfn hfr hco => ?_)
  refine Calls.spliced_nil ⟨I1.kIn, ?_⟩
  have R1 := R.lam hmT hu kk1 T1
  rw [ext] at R1
  have hk' : (c.k - 2) + 2 = c.k := by omega
  have rc : codeAny (model X.prog X.w) X.A (.call (.ref g) ⟨[.ref f], []⟩) (CR C8.CX0 X.stack X.prog X.w H1 s1 Q C8.E0) s1 := by
    refine LamX.run_ofS (k := c.k - 1) (N := N) (ps := [a]) (us := [.ref f]) (vs := [.ref f]) (by rw [z.K]; exact lk) (by rw [z.K]; exact hcd) S (hr.mono (by omega)) I1.env0 (hb s1 [.ref f] (by rw [← z.K]; exact I1.kIn) rfl) (.cons rfl .nil) rfl fun hr' => ?_
    have hZ : L2H.RoomH k (X.A.deeper (envOfC x (defScope st) s1.heap.objs.size g cdv)) := L2H.roomH_of (hr'.mono (by omega))
    rw [hss]
    let tbF : WX → TS := fun W D σZ HZ => ∃ E : XK, (∀ cls d H', E cls d H' → W cls d σZ H') ∧ σZ[0]? = some (some (.ref f)) ∧ HZ c1 = some (LamX.CodeO c1 (lq X)) ∧ tD (stL c sco kl) G (fun cls d _ H => E cls d H) m σ HZ (fun v H2 => D.nx (σZ.set it (some v)) H2)
    let tsF : TSX := fun a' oe cls d Z' σ' H' => ∃ G' : Ent, G'.pa = [] ∧ tS (stX c.toBase N (defScope st) k (a', oe)) G' (fun _ _ _ _ => False) mS Z' σ' H'
    let tR : TS := fun Z' σ' H' => ∃ G' : Ent, G'.pa = [] ∧ tS (stOf c.toBase N (defScope st) k 1) G' (fun _ _ _ _ => False) mR Z' σ' H'
    have tryR : PS (cxOf C8.CX0 X.prog X.w X.K X.mg X.base N x (defScope st) g cdv X.A X.stack s1 H1 C8.E0).nox (.Try [.Assign [.Name told q1] (.Call (.Name a q2) [] [] q3) q4] [.ExceptHandler (some (.Tuple [.Name x1 p1, .Name x2 p2, .Name x3 p3] kk tp)) (some e) (b0 :: suite) pos2] [] [] pos1)
        (fun D σ' H' => tbF (w3 X.K [.ref B1, .ref B2, .ref B3] ie tsF D) D σ' H') := by
      refine ps_try3 (X := (cxOf C8.CX0 X.prog X.w X.K X.mg X.base N x (defScope st) g cdv X.A X.stack s1 H1 C8.E0).nox) (tb := tbF) (ts := tsF) rfl rfl S.nd he0 hse ⟨g1, by show X.mg x1 = _; rw [z.mg]; exact m1, d1⟩ ⟨g2, by show X.mg x2 = _; rw [z.mg]; exact m2, d2⟩ ⟨g3, by show X.mg x3 = _; rw [z.mg]; exact m3, d3⟩ (fun W' pn xe _ tk po => ?_) (fun a' oe cls d pn hz hfl => ?_)
      · have hp := act_lam (CXg := C8.CX0) (Eg := C8.E0) (k := c.k - 2) (tb := fun E => tD (stL c sco kl) G (fun cls d _ H => E cls d H) m) (p1 := q2) (p2 := q3) I1 L' hf hfn hfr (hbind _ _ _ _ _) tk (hr'.mono (by omega)) (fun E s2 H2 hr2 => hm G _ _ (cz_lam z hc L (hr2.mono (by omega)))) ha0 (.inl hsa) ha1 ha2
        have hq := pss_one (ps_set (i := it) (pos := q4) (pos' := q1) S.nd ht0 (.inl hst) hp rfl (.inr hst))
        exact ⟨fun pins s' σ' H' D I' h' => hq.run pins s' σ' H' D I' h'⟩
      · refine ⟨fun pins s' σ' H' D I' ⟨G', hG, h'⟩ => ?_⟩
        refine (hS (a', oe) G' _ (fun _ _ _ _ => False) (fun p hp => by rw [hG] at hp; cases hp) ?_).run pins s' σ' H' D I' h'
        exact { P := z.P, w := z.w, K := z.K, mg := z.mg, base := z.base, N := rfl, sc := rfl, nd := S.nd, fnc := fun _ _ => rfl, calm := (fun e => nomatch e), lm := (fun _ _ e => nomatch e), room := ⟨hZ.dp, hZ.un⟩, hd := (fun e => nomatch e), xp := (fun q e => by cases e; exact List.mem_cons_self), xh := (fun e => nomatch e), gd := z.gd, fr := (fun e => nomatch e), tk := LamX.takes0, po := PassesOwn.never }
    have resR : PSs (cxOf C8.CX0 X.prog X.w X.K X.mg X.base N x (defScope st) g cdv X.A X.stack s1 H1 C8.E0).nox rest tR := by
      refine ⟨fun pins s' σ' H' D I' ⟨G', hG, h'⟩ => ?_⟩
      refine (hR G' _ (fun _ _ _ _ => False) (fun p hp => by rw [hG] at hp; cases hp) ?_).run pins s' σ' H' D I' h'
      exact { P := z.P, w := z.w, K := z.K, mg := z.mg, base := z.base, N := rfl, sc := rfl, nd := S.nd, fnc := fun _ _ => rfl, calm := fun _ => rfl, lm := (fun _ _ e => nomatch e), room := hZ, hd := (fun _ => hr'.hd), xp := (fun q e => nomatch e), xh := (fun _ => rfl), gd := z.gd, fr := fun _ => ⟨rfl, rfl⟩, tk := LamX.takes0, po := PassesOwn.never }
    refine ⟨_, (pss_cons tryR resR).nox, ?_⟩
    have hlen : (L2.start N [V.ref f]).length = N.length := by
      have hN : 1 ≤ N.length := by
        have := (List.getElem?_eq_some_iff.mp ha0).1
        omega
      unfold L2.start
      simp
      omega
    have hitl := (List.getElem?_eq_some_iff.mp ht0).1
    have hiel := (List.getElem?_eq_some_iff.mp he0).1
    refine ⟨fun cls d H' => w3 X.K [.ref B1, .ref B2, .ref B3] ie tsF { nx := tR { nx := fun _ H' => Q .non H', rt := Q }, rt := Q } cls d (L2.start N [V.ref f]) H', fun _ _ _ h => h, start_get (vs := [V.ref f]) rfl, hco, ?_⟩
    refine ⟨F, ρ, R1, ?_⟩
    unfold cauM at qq
    cases em : m ρ with
    | bad => rw [em] at qq; exact qq.elim
    | ok d ρ' =>
      rw [em] at qq
      cases hgo : catO N.length it mR d with
      | none => simp only [hgo] at qq; exact qq.elim
      | some r =>
      simp only [hgo] at qq
      intro v F' H' sF R' rv
      refine ⟨⟨F', H', []⟩, rfl, F', _, rel_un1 (b := c.toBase) (n := N.length) (i := it) (s := .fz d) (xe := none) R'.fh R'.tb (by rw [List.length_set]; exact hlen) (fun _ z => nomatch z) (fun d' z => by cases z; exact ⟨v, List.getElem?_set_self (by rw [hlen]; exact hitl), rv⟩) (fun _ z => nomatch z), ?_⟩
      unfold catO at hgo
      split at hgo
      case h_2 => cases hgo
      rename_i r' ρ2 em2
      cases hgo
      show PostS _ _ _ _ (mR (un1 N.length it (.fz d))) _
      rw [em2]
      exact fun v2 σ2 F2 H2 s2 R2 rv2 => qq v2 F2 H2 (sF.trans s2) (by rw [ext]; exact Rel.fin (c := stL c sco kl) R' (finX rfl s2 R2)) rv2
    | err xc ρ' =>
      rw [em] at qq
      dsimp only at qq
      split at qq
      case isFalse => exact qq.elim
      rename_i hso
      obtain ⟨row, hrow⟩ := Option.isSome_iff_exists.mp hso
      obtain ⟨hr1, hr2⟩ := erOf_some hrow
      cases hgo : catX N.length ie mS xc with
      | none => simp only [hgo] at qq; exact qq.elim
      | some r =>
      simp only [hgo] at qq
      intro F' H' cls d sF R' xr
      obtain ⟨C, k1, k2, k3⟩ := id xr
      refine ⟨by rw [k2, z.K]; exact hex row hr1 C (by rw [hr2]; exact k1), fun a' oe na hz hfl => ?_⟩
      refine ⟨⟨F', H', []⟩, rfl, F', _, rel_un1 (b := c.toBase) (n := N.length) (i := ie) (s := .xc xc) (xe := some (a', oe)) R'.fh R'.tb (by rw [List.length_set]; exact hlen) (fun _ z => nomatch z) (fun _ z => nomatch z)
        (fun y z => by cases z; exact ⟨(a', oe), cls, d, rfl, List.getElem?_set_self (by rw [hlen]; exact hiel), hz, hfl, xr⟩), ?_⟩
      unfold catX at hgo
      split at hgo
      case h_2 => cases hgo
      rename_i r' ρ2 em2
      cases hgo
      show PostS _ _ _ _ (mS (un1 N.length ie (.xc xc))) _
      rw [em2]
      exact fun v2 σ2 F2 H2 s2 R2 rv2 => qq v2 F2 H2 (sF.trans s2) (by rw [ext]; exact Rel.fin (c := stL c sco kl) R' (finX rfl s2 R2)) rv2
  refine wpAny_call (codeAny_mono rc fun r s2 hq => ?_)
  cases r with
  | error e => exact (show False from hq).elim
  | ok fl =>
    cases fl with
    | ret u => exact I1.after hq
    | next => exact False.elim hq
    | brk => exact False.elim hq
    | cont => exact False.elim hq
end
/-! ### a def that makes lambdas -/
def stOL (b : Base) (N : List Str) (sc : Scope) (k np : Nat) (q : Str) (c0 : Addr) : Stat := { b with N := N, sc := sc, raw := sc, k := k, np := np, hot := false, xe := none, lam := some (q, c0), fr := true }
end DL

/-! defs that make lambdas; the end with tables -/
namespace DL
open PySem PySem.Spec PyProof.Rows L2
section
variable {b : Base}
theorem fn_okL {x qual : Str} {st : Stmt} {f c0 : Addr} {fd : FuncData} {N ps : List Str} {k : Nat} {io : List Nat} {m : M Fl} (Fn : Fun b.K x qual st f fd) (hco : fd.code = .ref c0) (S : FnScope N ps (defScope st)) (hio : ∀ i ∈ io, i < ps.length)
    (h : ESs (stOL b N (defScope st) k ps.length (qual ++ ".<locals>.") c0) (defBody st) m) : FnG b.P b.w b.K b.mg b.base (k + 1) f fd ps (spF b io (fnM ps.length N.length io m)) := by
  have hlen : ∀ vs H Q E, spF b io (fnM ps.length N.length io m) vs H Q E → vs.length = ps.length := by
    rintro vs H Q E ⟨F, ds, s, a, q⟩
    by_cases hl : ds.length = ps.length
    · rw [a.len]; exact hl
    · unfold fnM at q
      rw [if_neg hl] at q
      exact q.elim
  obtain ⟨oc, od, kV, doc, pm, an, cdv, ct, osl, rfl, lk, hcd⟩ := Fn.ex
  have hcv : cdv = .ref c0 := hco
  subst hcv
  refine ⟨hlen, fun A outer s H args us vs Q E hr hgd e0 hb r hq => ?_⟩
  have hvl := hlen _ _ _ _ hq
  refine LamX.run_ofS (k := k) (N := N) (ps := ps) (us := us) (vs := vs) lk hcd S hr e0 hb r hvl fun hr' => ?_
  obtain ⟨F, ds, sm, a, q⟩ := hq
  have hdl : ds.length = ps.length := by rw [← a.len]; exact hvl
  have hN : vs.length ≤ N.length := by
    have := congrArg List.length S.pre
    rw [List.length_take] at this
    omega
  have R := rel_entry (N := N) sm a hN
  have hpa : PaOk (stOL b N (defScope st) k ps.length (qual ++ ".<locals>.") c0) ⟨F, H, paOf io vs⟩ := fun ⟨i, x⟩ hp => hio i (mem_paOf (vs := vs).mp hp).1
  have hv : ∀ i ∈ io, ∃ x, vs[i]? = some (.ref x) := fun i hi => by
    have hlt : i < ds.length := by rw [hdl]; exact hio i hi
    obtain ⟨x, q1, _⟩ := a.ow i _ hi (List.getElem?_eq_getElem hlt)
    exact ⟨x, q1⟩
  refine ⟨tS (stOL b N (defScope st) k ps.length (qual ++ ".<locals>.") c0) ⟨F, H, paOf io vs⟩ (fun cls d _ H => E cls d H) m, h _ _ _ hpa ?_, F, _, R, ?_⟩
  · exact { P := rfl, w := rfl, K := rfl, mg := rfl, base := rfl, N := rfl, sc := rfl, nd := S.nd, fnc := fun _ _ => rfl, calm := fun _ => rfl, lm := (fun _ _ e => by cases e; exact ⟨rfl, rfl⟩), room := L2H.roomH_of hr', hd := fun _ => hr'.hd, xp := (fun _ q => nomatch q), xh := fun _ => rfl, gd := hgd, fr := fun _ => ⟨rfl, rfl⟩, tk := takes_of rfl rfl rfl rfl, po := passes_of rfl }
  · unfold fnM at q
    rw [if_pos hdl] at q
    cases e : m (entry io ds N.length) with
    | bad => rw [e] at q; exact q.elim
    | err x ρ' =>
      rw [e] at q
      cases e2 : ioAt io ρ' with
      | none => simp only [e2] at q
      | some es =>
        simp only [e2] at q
        exact fun σ' F' H' cls d s' R' xr => q cls d F' H' (fin_of hv s' R' e2) xr
    | ok fl ρ' =>
      rw [e] at q
      cases fl with
      | bk => exact q.elim
      | ct => exact q.elim
      | nx =>
        cases e2 : ioAt io ρ' with
        | none => simp only [e2] at q
        | some es =>
          simp only [e2] at q
          exact fun σ' F' H' s' R' => q .non F' H' (fin_of hv s' R' e2) .non
      | rt d =>
        cases e2 : ioAt io ρ' with
        | none => simp only [e2] at q
        | some es =>
          simp only [e2] at q
          exact fun v σ' F' H' s' R' rv => q v F' H' (fin_of hv s' R' e2) rv
      | ro d =>
        cases e2 : ioAt io ρ' with
        | none => simp only [e2] at q
        | some es =>
          simp only [e2] at q
          intro x σ' F' H' s' R' ow no
          refine q x F' H' (fin_of hv s' R' e2) ow.nf ?_ ow.at_
          rcases ow.nh with z | ⟨⟨i, y⟩, hp, z⟩
          · exact z
          · exfalso
            have z : y = x := z
            subst z
            obtain ⟨d', hd'⟩ := R'.pw _ hp
            exact no i d' hd' (R'.par _ hp)
end
/-! ### the end -/
theorem law_callGT {P : Program} {w : World} {K : PySem.W.Frag} {mg mb : Str → Option Value} {k : Nat} {fa a : Addr} {fd : FuncData} {x : Str} {s₁ : Shared} {vs : List Value} {ns : List Int} {cs : List (Addr × Addr × Str)}
    (KX : K.In s₁.heap) (nl : NoList K) (hns : s₁.heap.Ns mainGlobals mg) (hb : s₁.heap.Ns builtinsNs mb) (hbb : ∀ x : Str, x ≠ "__name__" → mb x = bootBuiltins x) (hlim : s₁.heap.NoLimit) (hg : s₁.gens = #[])
    (hT : ∀ p ∈ cs, s₁.heap.get? p.2.1 = some { cls := .none, data := .fields #[] }) (nT : ∀ p ∈ cs, K.lookup p.2.1 = none) (C : ∀ p ∈ cs, PySem.W.CodeHd s₁.heap p.1 p.2.1)
    (hbm : ∃ (bm : Addr) (ob : Obj), mg "__builtins__" = some (.ref bm) ∧ bm ≠ builtinsNs ∧ s₁.heap.get? bm = some ob ∧ ob.cls = .type "module" ∧ ob.dict = some builtinsNs ∧ ob.data = .plain)
    (ha : s₁.heap.get? a = some { cls := .type "list", data := .seq vs.toArray }) (hi : IntsAre vs ns) (hl : ns.length ≤ sz) (hr : Room k callerA)
    (F : ∀ base : Heap, K.In base → base.Ns mainGlobals mg → (∀ p ∈ cs, LamX.TabB base mg p.1 p.2.1) → ∃ g es, FnG P w K mg base k fa fd [x] (spF ⟨P, w, K, mg, base, cs.map (·.2)⟩ [] g) ∧ g [.lst (ns.map .int)] = .ok (.bl true) es) (hbind : ∀ (s : Shared) (u : Value), BindsTo s fd ⟨[u], []⟩ [(x, u)]) :
    codeAny (model P w) callerA (.call (.ref fa) ⟨[.ref a], []⟩) (fun r s' => r = .ok (.ret (.bool true)) ∧ OldK s₁.heap s'.heap ∧ s'.os = s₁.os ∧ AllBare s'.gens) s₁ := by
  have rv := vals_ints hi
  have hK : K.lookup a = none := by
    cases e : K.lookup a with
    | none => rfl
    | some o =>
      have q := KX a o e
      rw [ha] at q
      cases q
      exact absurd rfl (nl a _ e)
  let ob : Obj := { cls := .type "list", data := .seq vs.toArray }
  let tabs : List Addr := cs.map fun p => p.2.1
  have memT : ∀ p ∈ cs, p.2.1 ∈ tabs := fun p hp => List.mem_map.mpr ⟨p, hp, rfl⟩
  have isT : ∀ b, b ∈ tabs → s₁.heap.get? b = some { cls := .none, data := .fields #[] } := fun b hb => by
    obtain ⟨p, hp, e⟩ := List.mem_map.mp hb
    rw [← e]; exact hT p hp
  have aT : a ∉ tabs := fun z => by
    have q := (isT a z).symm.trans ha
    cases q
  let H : Hp := fun b => if b = a then some (.frz ob (.lst (ns.map V.int))) else if b ∈ tabs then some (.tbl #[]) else none
  let Fz : Hp := fun b => if b = a then some (.frz ob (.lst (ns.map V.int))) else none
  have Ha : H a = some (.frz ob (.lst (ns.map V.int))) := if_pos rfl
  have Fa : Fz a = some (.frz ob (.lst (ns.map V.int))) := if_pos rfl
  have tne : ∀ b, b ∈ tabs → b ≠ a := fun b hb z => aT (by rw [← z]; exact hb)
  have Ht : ∀ b, b ∈ tabs → H b = some (.tbl #[]) := fun b hb => (if_neg (tne b hb)).trans (if_pos hb)
  have Hn : ∀ b, b ≠ a → b ∉ tabs → H b = none := fun b h h2 => (if_neg h).trans (if_neg h2)
  have Hs : ∀ b u, H b = some u → (b = a ∧ u = .frz ob (.lst (ns.map V.int))) ∨ (b ∈ tabs ∧ u = .tbl #[]) := fun b u e => by
    by_cases h : b = a
    · subst h; rw [Ha] at e; cases e; exact .inl ⟨rfl, rfl⟩
    · by_cases h2 : b ∈ tabs
      · rw [Ht b h2] at e; cases e; exact .inr ⟨h2, rfl⟩
      · rw [Hn b h h2] at e; cases e
  have sFH : Same Fz H := fun b u e => by
    by_cases h : b = a
    · subst h; rw [Fa] at e; rw [Ha]; exact e
    · have q : Fz b = none := if_neg h
      rw [q] at e; cases e
  have hok : HOk P w H s₁.heap := fun b u e => by
    rcases Hs b u e with ⟨rfl, rfl⟩ | ⟨h2, rfl⟩
    · exact ⟨ha, by rw [List.length_map, sz_eq]; exact hl, vs, _, rv, ha⟩
    · exact isT b h2
  have base_of : ∀ {b : Addr} {o : Obj}, s₁.heap.get? b = some o → b ≠ a → b ∉ tabs → (hidT s₁.heap H).get? b = some o := fun e n n2 => hidT_get e (Hn _ n n2)
  have apart : ∀ {b : Addr} {o : Obj}, s₁.heap.get? b = some o → (∀ vs n, o.data ≠ .seq vs n) → o.data ≠ .fields #[] → b ≠ a ∧ b ∉ tabs := fun {b o} e h1 h2 => ⟨fun z => by
      rw [z, ha] at e
      cases e
      exact h1 _ _ rfl, fun z => by
      rw [isT b z] at e
      cases e
      exact h2 rfl⟩
  have nsK : ∀ {b : Addr} {m : Str → Option Value}, s₁.heap.Ns b m → (hidT s₁.heap H).Ns b m := fun {b m} ⟨o, es, ep, e, d, r⟩ =>
    have q := apart e (fun vs n z => by rw [d] at z; cases z) (fun z => by rw [d] at z; cases z)
    ⟨o, es, ep, base_of e q.1 q.2, d, r⟩
  have hKb : K.In (hidT s₁.heap H) := fun b o e => base_of (KX b o e) (fun z => by rw [z, hK] at e; cases e) fun z => by
    obtain ⟨p, hp, ep⟩ := List.mem_map.mp z
    rw [← ep, nT p hp] at e
    cases e
  have hM : Mod K mg (hidT s₁.heap H) := ⟨hKb, nsK hns, ⟨mb, nsK hb, hbb⟩, let ⟨mc, h1, h2⟩ := hlim; ⟨mc, nsK h1, h2⟩⟩
  have TB : ∀ p ∈ cs, LamX.TabB (hidT s₁.heap H) mg p.1 p.2.1 := fun p hp => by
    have tp := hT p hp
    refine ⟨?_, ?_, fun z => ?_⟩
    · obtain ⟨o, us, file, tf, flags, tg, inF, text, tt, e1, r1, r2, r3, r⟩ := C p hp
      have q := apart e1 (fun vs n z => by rw [r2] at z; cases z) (fun z => by rw [r2] at z; cases z; simp at r3)
      exact ⟨o, us, file, tf, flags, tg, inF, text, tt, base_of e1 q.1 q.2, r1, r2, r3, r⟩
    · obtain ⟨bm, o1, b1, b2, b3, b4, b5, b6⟩ := hbm
      have q := apart b3 (fun vs n z => by rw [b6] at z; cases z) (fun z => by rw [b6] at z; cases z)
      refine ⟨bm, o1, b1, b2, fun z => ?_, fun z => q.2 (by rw [z]; exact memT p hp), base_of b3 q.1 q.2, b4, b5, b6⟩
      obtain ⟨o, es, ep, e, hd, _⟩ := hns
      rw [z, e] at b3
      cases b3
      rw [hd] at b6
      cases b6
    · obtain ⟨o, es, ep, e, hd, _⟩ := hns
      rw [z, tp] at e
      cases e
      cases hd
  have e0 : Env0 P w K mg (hidT s₁.heap H) callerA [] s₁ H := ⟨rfl, hM, fun b o e => of_hidT e, Nat.le_of_eq (hidT_size _ _), trivial, fun b hb => absurd (show b ∈ ([] : List Addr) from hb) (by simp), hok, .of_eq hg⟩
  obtain ⟨g, es, hF, hge⟩ := F _ hKb (nsK hns) TB
  refine codeAny_mono (hF.run callerA [] s₁ H ⟨[.ref a], []⟩ [.ref a] [.ref a] (fun v _ => v = .bl true) (fun _ _ _ => False) hr rfl e0 (hbind s₁ (.ref a)) (.cons rfl .nil) ?_) fun r s' h => ?_
  · refine ⟨Fz, [.lst (ns.map .int)], sFH, args_pure (.cons (.lst (.inr ⟨ob, Fa⟩) (dns_ints ns) (by rw [List.length_map]; exact hl)) .nil) ⟨fun q hq => ?_, fun q hq => ?_⟩, ?_⟩
    · obtain ⟨p, hp, e⟩ := List.mem_map.mp hq
      exact LamX.TabS.nil (Ht _ (by rw [← e]; exact memT p hp))
    · obtain ⟨p, hp, e⟩ := List.mem_map.mp hq
      exact if_neg (tne _ (by rw [← e]; exact memT p hp))
    · rw [hge]
      intro v F' H' f rv
      cases rv
      rfl
  cases r with
  | error e =>
    obtain ⟨_, _, _, _, _, _, _, _, _, _, _, _, z⟩ := h
    exact z.elim
  | ok fl =>
    cases fl with
    | next => exact h.elim
    | brk => exact h.elim
    | cont => exact h.elim
    | ret u =>
      obtain ⟨v, H', os, bare, un, hok', r', q⟩ := h
      have q' : v = .bl true := q
      subst q'
      obtain rfl : u = Value.bool true := r'
      have key : ∀ b o, b ∉ tabs → s₁.heap.get? b = some o → s'.heap.get? b = some o := fun b o nb e => by
        by_cases hba : b = a
        · subst hba
          have z2 := un.frzs b ob _ Ha
          obtain ⟨e2, _⟩ := hok' b _ z2
          rw [ha] at e
          cases e
          exact e2
        · exact un.keep b o e (Hn b hba nb) (by intro z; exact absurd (show b ∈ ([] : List Addr) from z) (by simp)) (by simp)
      have grown : ∀ p ∈ cs, ∃ more : Array Value, s'.heap.get? p.2.1 = some { cls := .none, data := .fields more } := fun p hp => by
        obtain ⟨more, y⟩ := un.tbls p.2.1 #[] (Ht _ (memT p hp))
        exact ⟨_, hok' p.2.1 _ y⟩
      refine ⟨rfl, ⟨fun b o e => ?_, fun b o e => ?_⟩, os, bare⟩
      · by_cases hb : b ∈ tabs
        · obtain ⟨p, hp, ep⟩ := List.mem_map.mp hb
          obtain ⟨more, hm⟩ := grown p hp
          have ep : p.2.1 = b := ep
          rw [← ep] at e ⊢
          rw [hT p hp] at e
          cases e
          exact .inr (.inl ⟨((C p hp).tab (hT p hp)).isCodeTable, rfl, #[], more, rfl, by rw [Array.empty_append]; exact hm⟩)
        · exact .inl (key b o hb e)
      · by_cases hb : b ∈ tabs
        · obtain ⟨p, hp, ep⟩ := List.mem_map.mp hb
          obtain ⟨more, hm⟩ := grown p hp
          have ep : p.2.1 = b := ep
          rw [← ep]
          exact ⟨_, hm⟩
        · exact ⟨o, key b o hb e⟩
/-- what the head tells of a def's code object and table -/
def TabF (q : Program) (K : PySem.W.Frag) (h : Heap) : Prop := ∀ (x : Str) (c P : Addr) (d : DefRec), (recsOf q).find? (fun e => e.name == x) = some d → PySem.W.tabIn K x = some (c, P) → PySem.W.CodeHd h c P ∧ h.get? P = some { cls := .none, data := .fields #[] }
/-- the script's bits (no cell is too great) -/
def BitsT (ns : List Int) : Prop := ∀ z ∈ ns, Builtin.Int.intBits z ≤ 1048576
end DL

/-! errors and lambdas: the rules as they are printed, the facts of the top -/
namespace DL
open PySem PySem.Spec PyProof.Rows L2
section
variable {c : Stat}
theorem xraise {n f : String} {a : Expr} {m : M D} {p pos pos2 : Pos} (T : ∃ C fI, ErrT c.K c.mg (Str.ofString n) (Str.ofString f) C fI) (ha : ED c a m) (hg : c.sc.names.lookup (Str.ofString n) = some .globalImplicit := by kernel_rfl) (hnd : (Str.ofString n == ("__debug__" : Str)) = false := by kernel_rfl)
    (na : ∀ env, starEach [a] env = (false, eval a env) :: starEach [] env := by intro _; rfl) (hk : Nat.ble 1 c.k = true := by kernel_rfl) (hc : c.hot = false := by first | rfl | assumption) : ES c (.Raise (some (.Call (.Name (Str.ofString n) p) [a] [] pos)) none pos2) (raiM n f m) :=
  let ⟨_, _, T⟩ := T; es_raise T ha hg hnd na (Nat.le_of_ble_eq_true hk) hc
theorem xisX {tb : ErTab} {own bt : List String} (i : Nat) {y : Str} {e : Expr} {f : M D} {p p2 pos : Pos} (T : ExT c.toBase tb own bt) (hm : c.mg "isinstance" = none) (ha : ED c e f) (hg : c.sc.names.lookup ("isinstance" : Str) = some .globalImplicit := by kernel_rfl) (hN : c.N[i]? = some y := by kernel_rfl) (hv : visB c.sc y = true := by kernel_rfl)
    (hd : (y == ("__debug__" : Str)) = false := by kernel_rfl) (hcd : (y == ("__classdict__" : Str)) = false := by kernel_rfl) (he : ∀ env, starEach [e] env = [(false, eval e env)] := by intro _; rfl) (hpl : ∀ env, (backTo pos (starEach [e] env)).any (·.1) = false := by intro _; rfl) :
    ED c (.Call (.Name "isinstance" p) [.Name y p2, e] [] pos) (isX tb own bt i f) := ed_isX T rfl hg hm hN (vis_of hv) ha hd hcd he hpl
theorem xfldX {tb : ErTab} {own bt : List String} (i : Nat) {y : Str} {f : String} {p2 pos : Pos} (T : ExT c.toBase tb own bt) (hN : c.N[i]? = some y := by kernel_rfl) (hv : visB c.sc y = true := by kernel_rfl) (hd : (y == ("__debug__" : Str)) = false := by kernel_rfl) (hcd : (y == ("__classdict__" : Str)) = false := by kernel_rfl) :
    ED c (.Attribute (.Name y p2) (Str.ofString f) pos) (fldX tb i f) := ed_fldX T hN (vis_of hv) hd hcd
theorem xcalX (i : Nat) {k : Nat} {x y : Str} {g : Xc → Option D} {p p2 pos : Pos} (cl : CalX c.toBase k x g) (hk : Nat.ble k c.k = true := by kernel_rfl) (hg : c.sc.names.lookup x = some .globalImplicit := by kernel_rfl) (hN : c.N[i]? = some y := by kernel_rfl) (hv : visB c.sc y = true := by kernel_rfl) (hdb : (x == ("__debug__" : Str)) = false := by kernel_rfl)
    (hd : (y == ("__debug__" : Str)) = false := by kernel_rfl) (hcd : (y == ("__classdict__" : Str)) = false := by kernel_rfl) : ED c (.Call (.Name x p) [.Name y p2] [] pos) (calX g i) := ed_calX cl (Nat.le_of_ble_eq_true hk) hg hN (vis_of hv) hdb hd hcd
theorem xcau (kl : Nat) {k : Nat} {x q : Str} {c0 : Addr} {tb : ErTab} {gO : D → Option D} {gX : Xc → Option D} {m : M D} {prm : Arguments} {bd : Expr} {sco : Scope} {p lp pos : Pos} (cl : Cat c.toBase k x tb gO gX) (LT : LamT c.toBase c0 q) (hm : ED (stL c sco kl) bd m) (hlm : c.lam = some (q, c0) := by rfl)
    (hk : Nat.ble (k + 1) c.k = true := by kernel_rfl) (hkl : Nat.ble (kl + 2) c.k = true := by kernel_rfl) (hg : c.sc.names.lookup x = some .globalImplicit := by kernel_rfl) (L : LamX.lamSB c.sc sco = true := by kernel_rfl) (hdef : ∀ env, defaultsOf prm env = ([], []) := by intro _; rfl)
    (hbind : ∀ (q : Str) (cl : List (Str × Addr)) (pm cv ctv : Value), bindArgs (PySem.W.kla_fn "<lambda>" q prm bd sco cl pm cv ctv) ⟨[], []⟩ = pure [] := by intro _ _ _ _ _; rfl) (hdb : (x == ("__debug__" : Str)) = false := by kernel_rfl) (hc : c.hot = false := by first | rfl | assumption) :
    ED c (.Call (.Name x p) [.Lambda prm bd sco lp] [] pos) (cauM tb gO gX m) := ed_cau cl hlm LT (Nat.le_of_ble_eq_true hk) (Nat.le_of_ble_eq_true hkl) hg (LamX.lamS_by L) hm hdef hbind hdb hc
end
/-! ### facts of the top -/
section
variable {K : PySem.W.Frag} {h : Heap} {mg : Str → Option Value} {P : Program} {w : World} {base : Heap} {Ts : List (Addr × Str)}
/-- a base class of the language with what making its heirs asks -/
structure BaseX (B : String) : Prop where
  ex : ∃ (nw ini : String) (mr : List Value), ExcBaseFacts B nw ini mr ∧ StoreFacts B mr "object.__setattr__" "object" ∧ nw = B ++ ".__new__" ∧ mr = [.type B, .type "Exception", .type "BaseException", .type "object"]
theorem bx_ValueError : BaseX "ValueError" := ⟨_, _, _, PySem.F.excBase_ValueError, PySem.F.store_ValueError, by decide +kernel, rfl⟩
theorem bx_LookupError : BaseX "LookupError" := ⟨_, _, _, PySem.F.excBase_LookupError, PySem.F.store_LookupError, by decide +kernel, rfl⟩
theorem bx_ArithmeticError : BaseX "ArithmeticError" := ⟨_, _, _, PySem.F.excBase_ArithmeticError, PySem.F.store_ArithmeticError, by decide +kernel, rfl⟩
theorem top_err {n f B : String} {C fI : Addr} {oc : Value} {od an : Option Addr} {doc pm cdv ct : Value} {sl : Array (Option Value)} {p1 p2 q1 q2 q3 q4 : Pos} {ql : Str} (bx : BaseX B) (X : K.In h) (G : h.Ns mainGlobals mg) (fo : erF (Str.ofString f) = true) (a : PySem.W.nsIn K mainGlobals (Str.ofString n) = some (some (.ref C)))
    (ei : PySem.W.excInitIn K C [.type B, .type "Exception", .type "BaseException", .type "object"] (B ++ ".__new__") = true) (eo : PySem.W.excOver K C [.type B, .type "Exception", .type "BaseException", .type "object"] = true)
    (sa : PySem.W.findIn K (.ref C) "__setattr__" = some (some (.builtin "object.__setattr__"))) (ga : PySem.W.findIn K (.ref C) "__getattribute__" = some (some (.builtin "BaseException.__getattribute__"))) (gg : PySem.W.findIn K (.ref C) "__getattr__" = some none) (no : PySem.W.findIn K (.ref C) (Str.ofString f) = some none)
    (iC : PySem.W.findIn K (.ref C) "__init__" = some (some (.ref fI))) (tC : PySem.W.typeIn K (.ref fI) = some (.type "function")) (kC : PySem.W.keepIn K (.ref C) = true) (exC : PySem.W.subIn K (.ref C) (.type "BaseException") = some true) (tyC : PySem.W.typeIn K (.ref C) = some (.type "type")) (hd : PySem.W.hasDictIn K C = true)
    (l1 : K.lookup fI = some ⟨oc, od, .func (PySem.W.fnOf "__init__" ql (erA (Str.ofString f) p1 p2) (erB (Str.ofString f) q1 q2 q3 q4) (erS (Str.ofString f)) .none .none doc pm an cdv ct), sl⟩) (c1 : PySem.W.codeIn K cdv ql = true) : ∃ C fI, ErrT K mg (Str.ofString n) (Str.ofString f) C fI := by
  obtain ⟨nw, ini, mr, h1, h2, rfl, rfl⟩ := bx.ex
  exact ⟨C, fI, { fo := fo, gC := PySem.W.mg_of X G a, bx := ⟨B, _, ini, _, h1, h2, ei, eo⟩, sa := sa, ga := ga, gg := gg, no := no, iC := iC, tC := tC, kC := kC, exC := exC, tyC := tyC, hd := hd, fn := ⟨oc, od, doc, pm, an, cdv, ct, sl, p1, p2, q1, q2, q3, q4, ql, l1, c1⟩ }⟩
/-- the same, at the base -/
theorem top_errM {n f B : String} {C fI : Addr} {oc : Value} {od an : Option Addr} {doc pm cdv ct : Value} {sl : Array (Option Value)} {p1 p2 q1 q2 q3 q4 : Pos} {ql : Str} (bx : BaseX B) (X : K.In h) (G : h.Ns mainGlobals mg) (fo : erF (Str.ofString f) = true) (a : PySem.W.nsIn K mainGlobals (Str.ofString n) = some (some (.ref C)))
    (ei : PySem.W.excInitIn K C [.type B, .type "Exception", .type "BaseException", .type "object"] (B ++ ".__new__") = true) (eo : PySem.W.excOver K C [.type B, .type "Exception", .type "BaseException", .type "object"] = true)
    (sa : PySem.W.findIn K (.ref C) "__setattr__" = some (some (.builtin "object.__setattr__"))) (ga : PySem.W.findIn K (.ref C) "__getattribute__" = some (some (.builtin "BaseException.__getattribute__"))) (gg : PySem.W.findIn K (.ref C) "__getattr__" = some none) (no : PySem.W.findIn K (.ref C) (Str.ofString f) = some none)
    (iC : PySem.W.findIn K (.ref C) "__init__" = some (some (.ref fI))) (tC : PySem.W.typeIn K (.ref fI) = some (.type "function")) (kC : PySem.W.keepIn K (.ref C) = true) (exC : PySem.W.subIn K (.ref C) (.type "BaseException") = some true) (tyC : PySem.W.typeIn K (.ref C) = some (.type "type")) (hd : PySem.W.hasDictIn K C = true)
    (l1 : K.lookup fI = some ⟨oc, od, .func (PySem.W.fnOf "__init__" ql (erA (Str.ofString f) p1 p2) (erB (Str.ofString f) q1 q2 q3 q4) (erS (Str.ofString f)) .none .none doc pm an cdv ct), sl⟩) (c1 : PySem.W.codeIn K cdv ql = true) : ∃ C fI, ErrT (mkB P w K mg base Ts).K (mkB P w K mg base Ts).mg (Str.ofString n) (Str.ofString f) C fI := top_err bx X G fo a ei eo sa ga gg no iC tC kC exC tyC hd l1 c1
/-- the class n stands at C -/
theorem top_adr {R : Prop} (X : K.In h) (G : h.Ns mainGlobals mg) {n : String} {C : Addr} (a : PySem.W.nsIn K mainGlobals (Str.ofString n) = some (some (.ref C))) (r : mg (Str.ofString n) = some (.ref C) → R) : R := r (PySem.W.mg_of X G a)
/-- where the classes stand -/
structure Adr (mg : Str → Option Value) (l : List (String × Addr)) : Prop where
  at_ : ∀ p ∈ l, mg (Str.ofString p.1) = some (.ref p.2)
theorem Adr.nil : Adr mg [] := ⟨fun _ q => nomatch q⟩
theorem Adr.cons {n : String} {C : Addr} {l : List (String × Addr)} (a : mg (Str.ofString n) = some (.ref C)) (r : Adr mg l) : Adr mg ((n, C) :: l) := ⟨fun p hp => by
  rcases List.mem_cons.mp hp with e | e
  · rw [e]; exact a
  · exact r.at_ p e⟩
theorem Adr.of {l : List (String × Addr)} (A : Adr mg l) {n : String} {C : Addr} (hl : (l.map (·.1)).contains n = true) (e : mg (Str.ofString n) = some (.ref C)) : (n, C) ∈ l := by
  obtain ⟨p, hp, rfl⟩ := List.mem_map.mp (List.contains_iff_mem.mp hl)
  have := A.at_ p hp
  rw [e] at this
  cases this
  exact hp
def optB (o : Option Bool) (b : Bool) : Bool := match o with
  | some x => x == b
  | none => false
theorem optB_eq {o : Option Bool} {b : Bool} (h : optB o b = true) : o = some b := by
  unfold optB at h
  split at h
  · rw [eq_of_beq h]
  · cases h
def isNoneO (o : Option (Option Value)) : Bool := match o with
  | some .none => true
  | _ => false
theorem isNoneO_eq {o : Option (Option Value)} (h : isNoneO o = true) : o = some none := by
  unfold isNoneO at h
  split at h
  · rfl
  · cases h
def isBlt (o : Option (Option Value)) (s : String) : Bool := match o with
  | some (some (.builtin t)) => t == s
  | _ => false
theorem isBlt_eq {o : Option (Option Value)} {s : String} (h : isBlt o s = true) : o = some (some (.builtin s)) := by
  unfold isBlt at h
  split at h
  · rw [eq_of_beq h]
  · cases h
def excFB (K : PySem.W.Frag) (C : Addr) (f : String) : Bool :=
  isBlt (PySem.W.findIn K (.ref C) "__getattribute__") "BaseException.__getattribute__" && (isNoneO (PySem.W.findIn K (.ref C) "__getattr__") && (optB (PySem.W.subIn K (.ref C) (.type "BaseException")) true && (isBlt (PySem.W.findIn K (.ref C) "__class__") "object.__class__" && (optB (PySem.W.mroIn K C (.type "object")) true && (PySem.W.hasDictIn K C && isNoneO (PySem.W.findIn K (.ref C) (Str.ofString f)))))))
theorem excFB_ok {C : Addr} {f : String} (sp : PySem.W.specialIn K (.builtin "object.__class__") "__get__" = some (some (.builtin "getset_descriptor.__get__"))) (tk : PySem.W.takesIn K (.builtin "object.__class__") = some true) (q : excFB K C f = true) : ExcF K C (Str.ofString f) := by
  obtain ⟨h1, q⟩ := Bool.and_eq_true_iff.mp q
  obtain ⟨h2, q⟩ := Bool.and_eq_true_iff.mp q
  obtain ⟨h3, q⟩ := Bool.and_eq_true_iff.mp q
  obtain ⟨h4, q⟩ := Bool.and_eq_true_iff.mp q
  obtain ⟨h5, q⟩ := Bool.and_eq_true_iff.mp q
  obtain ⟨h6, h7⟩ := Bool.and_eq_true_iff.mp q
  exact ⟨isBlt_eq h1, isNoneO_eq h2, optB_eq h3, isBlt_eq h4, sp, tk, optB_eq h5, h6, isNoneO_eq h7⟩
/-- all the questions about the rows, at their addresses -/
def extB (K : PySem.W.Frag) (l : List (String × Addr)) (tb : ErTab) (own bt : List String) : Bool :=
  tb.all fun r => (l.map (·.1)).contains r.1 && l.all fun p => p.1 != r.1 || (excFB K p.2 r.2.1 && (own.all (fun t => (l.map (·.1)).contains t && l.all fun p' => p'.1 != t || optB (PySem.W.kitOne K (.ref p.2) (.ref p'.2)) (r.2.2.contains t)) && bt.all fun t => optB (PySem.W.kitOne K (.ref p.2) (.type t)) (r.2.2.contains t)))
theorem top_ext {l : List (String × Addr)} {tb : ErTab} {own bt : List String} (A : Adr mg l) (sp : PySem.W.specialIn K (.builtin "object.__class__") "__get__" = some (some (.builtin "getset_descriptor.__get__"))) (tk : PySem.W.takesIn K (.builtin "object.__class__") = some true) (q : extB K l tb own bt = true) : ExT (mkB P w K mg base Ts) tb own bt := by
  have key : ∀ r ∈ tb, ∀ C, mg (Str.ofString r.1) = some (.ref C) → excFB K C r.2.1 = true ∧ (∀ t ∈ own, ∀ T, mg (Str.ofString t) = some (.ref T) → optB (PySem.W.kitOne K (.ref C) (.ref T)) (r.2.2.contains t) = true) ∧ ∀ t ∈ bt, optB (PySem.W.kitOne K (.ref C) (.type t)) (r.2.2.contains t) = true := by
    intro r hr C hC
    have q1 := List.all_eq_true.mp q r hr
    obtain ⟨h1, h2⟩ := Bool.and_eq_true_iff.mp q1
    have hm := A.of h1 hC
    have q2 := List.all_eq_true.mp h2 _ hm
    rcases Bool.or_eq_true_iff.mp q2 with z | z
    · simp at z
    obtain ⟨z1, z⟩ := Bool.and_eq_true_iff.mp z
    obtain ⟨z2, z3⟩ := Bool.and_eq_true_iff.mp z
    refine ⟨z1, fun t ht T hT => ?_, fun t ht => List.all_eq_true.mp z3 t ht⟩
    obtain ⟨y1, y2⟩ := Bool.and_eq_true_iff.mp (List.all_eq_true.mp z2 t ht)
    rcases Bool.or_eq_true_iff.mp (List.all_eq_true.mp y2 _ (A.of y1 hT)) with y | y
    · simp at y
    · exact y
  exact ⟨fun r hr C hC => excFB_ok sp tk (key r hr C hC).1, fun r hr t ht C T hC hT => optB_eq ((key r hr C hC).2.1 t ht T hT), fun r hr t ht C hC => optB_eq ((key r hr C hC).2.2 t ht)⟩
/-- the rows' classes are caught -/
def catB (K : PySem.W.Frag) (l : List (String × Addr)) (tb : ErTab) (B1 B2 B3 : Addr) : Bool :=
  tb.all fun r => (l.map (·.1)).contains r.1 && l.all fun p => p.1 != r.1 || optB (PySem.W.exmAny K (.ref p.2) [.ref B1, .ref B2, .ref B3]) true
/-- the table of a def -/
theorem tabIn_of {x : Str} {f c0 T0 : Addr} {o1 o2 : Value} {d1 d2 : Option Addr} {fd : FuncData} {sl1 sl2 : Array (Option Value)} {vs : Array Value} (a : PySem.W.nsIn K mainGlobals x = some (some (.ref f))) (l : K.lookup f = some ⟨o1, d1, .func fd, sl1⟩) (hc : fd.code = .ref c0)
    (l2 : K.lookup c0 = some ⟨o2, d2, .fields vs, sl2⟩) (hv : (vs[11]? : Option Value) = some (.ref T0)) : PySem.W.tabIn K x = some (c0, T0) := by
  unfold PySem.W.tabIn
  rw [a]
  dsimp only
  rw [l]
  dsimp only
  rw [hc]
  dsimp only
  rw [l2]
  dsimp only
  rw [hv]
end
end DL

/-! repr of tuples and dicts with dicts in them -/
namespace DL
open PySem PySem.Spec PyProof.Rows L2
mutual
def dq : D → Bool
  | .non => true | .bl _ => true | .int _ => true | .str _ => true
  | .tup xs => dqs xs | .dct kvs => dqk kvs
  | .lst _ => false | .ins _ _ => false | .exc _ _ => false | .gl _ => false | .ty _ => false
def dqs : List D → Bool
  | [] => true
  | x :: xs => dq x && dqs xs
def dqk : List (DK × D) → Bool
  | [] => true
  | (_, x) :: xs => dq x && dqk xs
end
def pyK : DK → PyData
  | .i n => .int n
  | .s cs => .str (toS cs)
mutual
def py2 : D → PyData
  | .non => .none | .bl b => .bool b | .int i => .int i | .str cs => .str (toS cs)
  | .tup xs => .tuple (pys2 xs) | .dct kvs => .dict (pyk2 kvs)
  | .lst _ => .none | .ins _ _ => .none | .exc _ _ => .none | .gl _ => .none | .ty _ => .none
def pys2 : List D → List PyData
  | [] => []
  | x :: xs => py2 x :: pys2 xs
def pyk2 : List (DK × D) → List (PyData × PyData)
  | [] => []
  | (k, x) :: xs => (pyK k, py2 x) :: pyk2 xs
end
section
variable {X : Cx} {pins : List (Addr × Obj)} {σ : L2.St} {F H : Hp} {s : Shared} {mg : Str → Option Value}
theorem readsK {k : DK} {u : Value} (h : keyIs k.key u = true) : ∃ as, Reads s.heap u (pyK k) as ∧ sysModules ∉ as := by
  rcases keyIs_shape h with ⟨i, t, e, rfl⟩ | ⟨x, t, e, rfl⟩
  · cases k <;> cases e
    exact ⟨_, Reads.int _ t, by simp⟩
  · cases k <;> cases e
    exact ⟨_, Reads.str _ t, by simp⟩
mutual
theorem reads2 (I : Inv X pins σ H s) (sF : Same F H) : ∀ {v : V} {d : D} {u : Value}, Dn X.K mg F v d → dq d = true → RelV v u → ∃ as, Reads s.heap u (py2 d) as ∧ sysModules ∉ as
  | _, _, _, .non, _, r => by
    cases r
    exact ⟨_, Reads.none, by simp⟩
  | _, _, _, .bl b, _, r => by
    cases r
    exact ⟨_, Reads.bool b, by simp⟩
  | _, _, _, .int i, _, r => by
    obtain ⟨t, rfl⟩ := r
    exact ⟨_, Reads.int i t, by simp⟩
  | _, _, _, .str cs _, _, r => by
    obtain ⟨t, rfl⟩ := r
    exact ⟨_, Reads.str _ t, by simp⟩
  | _, _, _, .tup h r0 _, q, r => by
    cases r
    obtain ⟨its, rv, ⟨o, ho, hc, n, hd⟩, _⟩ := I.tuple (same_t sF h)
    obtain ⟨as, h1, h2⟩ := reads2s I sF r0 (by simpa [dq] using q) rv
    exact ⟨as, by simp only [py2]; exact Reads.tuple ho hc hd h1, h2⟩
  | _, _, _, .dct h r0 _, q, r => by
    cases r
    obtain ⟨e1, _, ne, vs, kv, o', es, ep, e2, ex, hd, _, pr, _⟩ := I.hok _ _ (sF _ _ h)
    obtain ⟨as, bs, h1, h2, h3, h4⟩ := reads2k I sF r0 (by simpa [dq] using q) kv pr
    refine ⟨_, by simp only [py2]; exact Reads.dict e2 ex.1 hd h1 h2, fun z => ?_⟩
    rcases List.mem_append.mp z with z | z
    · rcases List.mem_cons.mp z with z | z
      · rw [← z] at ne; simp at ne
      · exact h3 z
    · exact h4 z
  | _, _, _, .lst _ _ _, q, _ => by simp [dq] at q
  | _, _, _, .ins _ _ _, q, _ => by simp [dq] at q
  | _, _, _, .exc _ _ _ _, q, _ => by simp [dq] at q
  | _, _, _, .gl _, q, _ => by simp [dq] at q
  | _, _, _, .ty _, q, _ => by simp [dq] at q
theorem reads2s (I : Inv X pins σ H s) (sF : Same F H) : ∀ {vs : List V} {ds : List D} {us : List Value}, Dns X.K mg F vs ds → dqs ds = true → Vals vs us → ∃ as, ReadsAll s.heap us (pys2 ds) as ∧ sysModules ∉ as
  | _, _, _, .nil, _, r => by
    cases r
    exact ⟨_, by simp only [pys2]; exact ReadsAll.nil, by simp⟩
  | _, _, _, .cons h r0, q, r => by
    cases r with
    | cons r1 r2 =>
    have q' := q
    simp only [dqs, Bool.and_eq_true] at q'
    obtain ⟨as, h1, h2⟩ := reads2 I sF h q'.1 r1
    obtain ⟨bs, h3, h4⟩ := reads2s I sF r0 q'.2 r2
    exact ⟨_, by simp only [pys2]; exact ReadsAll.cons h1 h3, fun z => (List.mem_append.mp z).elim h2 h4⟩
theorem reads2k (I : Inv X pins σ H s) (sF : Same F H) : ∀ {kvs : List (Key × V)} {kds : List (DK × D)} {vs : List (Key × Value)} {es : List DictEntry}, Dkv X.K mg F kvs kds → dqk kds = true → KV kvs vs → Pairs (mixKind X.prog X.w) es vs →
    ∃ as bs, ReadsAll s.heap (es.map (·.key)) ((pyk2 kds).map (·.1)) as ∧ ReadsAll s.heap (es.map (·.val)) ((pyk2 kds).map (·.2)) bs ∧ sysModules ∉ as ∧ sysModules ∉ bs
  | _, _, _, _, .nil, _, r, p => by
    cases r
    cases p
    exact ⟨_, _, by simp only [pyk2]; exact ReadsAll.nil, by simp only [pyk2]; exact ReadsAll.nil, by simp, by simp⟩
  | _, _, _, _, .cons hk h r0, q, r, p => by
    cases r with
    | cons r1 r2 =>
    cases p with
    | cons p1 p2 p3 =>
    have q' := q
    simp only [dqk, Bool.and_eq_true] at q'
    obtain ⟨e1, rv⟩ := r1
    dsimp only at e1 rv
    have p1' : keyIs _ _ = true := p1
    rw [← e1] at p1'
    obtain ⟨a1, g1, g2⟩ := readsK (s := s) p1'
    rw [← p2] at rv
    obtain ⟨as, h1, h2⟩ := reads2 I sF h q'.1 rv
    obtain ⟨bs, cs, h3, h4, h5, h6⟩ := reads2k I sF r0 q'.2 r2 p3
    exact ⟨_, _, by simp only [pyk2, List.map_cons]; exact ReadsAll.cons g1 h3, by simp only [pyk2, List.map_cons]; exact ReadsAll.cons h1 h4, fun z => (List.mem_append.mp z).elim g2 h5, fun z => (List.mem_append.mp z).elim h2 h6⟩
end
end
def shw2 (d : D) : Cs := (py2 d).shown.cps.toList
theorem shw2_toS (d : D) : (py2 d).shown = toS (shw2 d) := by unfold shw2 toS; simp
def okRep2 (d : D) : Bool := dq d && decide ((py2 d).depth ≤ 60) && (py2 d).showable && decide (okS (shw2 d))
def dRepr2 (d : D) : Option D := if okRep d then dRepr d else if okRep2 d then some (.str (shw2 d)) else none
section
variable {c : Stat}
theorem call_reprD2 {X : Cx} {W : WX} (z : Cz c X W) : CallR X (.builtin "repr") (fun vs H Q => ∃ F x d, Same F H ∧ vs = [x] ∧ Dn c.K c.mg F x d ∧ okRep2 d = true ∧ Q (.str (toS (shw2 d))) H) := by
  intro pins s σ H vs us Q I r ⟨F, x, d, e, ev, rx, hk, q⟩
  subst ev
  obtain ⟨u, rfl, ru⟩ := vals1 r
  simp only [okRep2, Bool.and_eq_true, decide_eq_true_eq] at hk
  obtain ⟨⟨⟨hp, hd⟩, hs⟩, hok⟩ := hk
  obtain ⟨as, rd, nm⟩ := reads2 (mg := c.mg) I e (by rw [z.K]; exact rx) hp ru
  have hu := z.room.units
  have hsz : (py2 d).shown.length ≤ sizeLine := by rw [shw2_toS, toS_length, sz_eq]; exact hok.1
  have fin : ∀ (h' : Heap) (t : Tok) (tk : Nat), (∀ b o, s.heap.get? b = some o → h'.get? b = some o) → EP X pins σ Q (.str (py2 d).shown t) { s with heap := h', toks := tk } := fun h' t tk hk =>
    ⟨.str (toS (shw2 d)), H, I.kept hk, ⟨t, by rw [shw2_toS]⟩, q⟩
  cases rx with
  | non =>
    obtain rfl : u = Value.none := ru
    exact PySem.P.repr_of_none (fin s.heap _ _ fun _ _ h => h)
  | bl b =>
    obtain rfl : u = Value.bool b := ru
    refine PySem.P.repr_of_bool ?_
    have := fin s.heap s.toks (s.toks + 1) fun _ _ h => h
    simpa [py2, PyData.shown] using this
  | int i =>
    obtain ⟨t, rfl⟩ := ru
    refine PySem.P.repr_of_int (by simpa [py2, PyData.showable] using hs) ?_
    have := fin s.heap s.toks (s.toks + 1) fun _ _ h => h
    simpa [py2, PyData.shown] using this
  | str cs h =>
    obtain ⟨t, rfl⟩ := ru
    refine PySem.P.repr_of_str ?_ (by simpa [py2, PyData.shown] using hsz)
    have := fin s.heap s.toks (s.toks + 1) fun _ _ h => h
    simpa [py2, PyData.shown] using this
  | ty n => simp [dq] at hp
  | gl h => simp [dq] at hp
  | lst _ _ _ => simp [dq] at hp
  | ins _ _ _ => simp [dq] at hp
  | exc _ _ _ _ => simp [dq] at hp
  | tup h r l =>
    cases ru
    exact repr_of_reads' rd hs (fun _ => nm) z.gd (by omega) (fun _ _ h => h) (fun h' t tk hk => fin h' t tk hk) hsz
  | dct h r l =>
    cases ru
    exact repr_of_reads' rd hs (fun _ => nm) z.gd (by omega) (fun _ _ h => h) (fun h' t tk hk => fin h' t tk hk) hsz
theorem b_repr2 : BCl c (.builtin "repr") (on1 dRepr2) := fun X W z => ⟨_, CallR.or (call_reprD z) (call_reprD2 z), r1 fun F H x dx d Q s h e a => by
  unfold dRepr2 at e
  split at e
  · rename_i hk
    unfold dRepr at e
    rw [if_pos hk] at e
    cases e
    have hk' := hk
    simp only [okRep, Bool.and_eq_true, decide_eq_true_eq] at hk'
    exact .inl ⟨F, x, dx, s, rfl, h, hk, a.here s (.str _ hk'.2)⟩
  · split at e
    · rename_i hk
      cases e
      have hk' := hk
      simp only [okRep2, Bool.and_eq_true, decide_eq_true_eq] at hk'
      exact .inr ⟨F, x, dx, s, rfl, h, hk, a.here s (.str _ hk'.2)⟩
    · cases e⟩
end
end DL

/-! str of any value without lists; count and index of lists of truths -/
namespace DL
open PySem PySem.Spec PyProof.Rows L2
section
variable {c : Stat}
def dStrG : D → Option D
  | .str cs => some (.str cs)
  | d => if okRep2 d then some (.str (shw2 d)) else none
theorem call_strG {X : Cx} {W : WX} (z : Cz c X W) : CallR X (.type "str") (fun vs H Q => ∃ F x d, Same F H ∧ vs = [x] ∧ Dn c.K c.mg F x d ∧ ((∃ cs, d = .str cs ∧ Q (.str (toS cs)) H) ∨ ((∀ cs, d ≠ .str cs) ∧ okRep2 d = true ∧ Q (.str (toS (shw2 d))) H))) := by
  intro pins s σ H vs us Q I r ⟨F, x, d, e, ev, rx, hq⟩
  subst ev
  obtain ⟨u, rfl, ru⟩ := vals1 r
  rcases hq with ⟨cs, rfl, q⟩ | ⟨ns, hk, q⟩
  · cases rx
    obtain ⟨t, rfl⟩ := ru
    exact PySem.P.str_of_str ⟨.str _, H, I, ⟨t, rfl⟩, q⟩
  simp only [okRep2, Bool.and_eq_true, decide_eq_true_eq] at hk
  obtain ⟨⟨⟨hp, hd⟩, hs⟩, hok⟩ := hk
  obtain ⟨as, rd, nm⟩ := reads2 (mg := c.mg) I e (by rw [z.K]; exact rx) hp ru
  have hu := z.room.units
  have hsz : (py2 d).shown.length ≤ sizeLine := by rw [shw2_toS, toS_length, sz_eq]; exact hok.1
  have fin : ∀ (h' : Heap) (t : Tok) (tk : Nat), (∀ b o, s.heap.get? b = some o → h'.get? b = some o) → EP X pins σ Q (.str (py2 d).shown t) { s with heap := h', toks := tk } := fun h' t tk hk =>
    ⟨.str (toS (shw2 d)), H, I.kept hk, ⟨t, by rw [shw2_toS]⟩, q⟩
  cases rx with
  | non =>
    obtain rfl : u = Value.none := ru
    refine PySem.P.str_of_none ?_
    have := fin s.heap s.toks (s.toks + 1) fun _ _ h => h
    simpa [py2, PyData.shown] using this
  | bl b =>
    obtain rfl : u = Value.bool b := ru
    refine PySem.P.str_of_bool ?_
    have := fin s.heap s.toks (s.toks + 1) fun _ _ h => h
    simpa [py2, PyData.shown] using this
  | int i =>
    obtain ⟨t, rfl⟩ := ru
    refine PySem.P.str_of_int (by simpa [py2, PyData.showable] using hs) ?_
    have := fin s.heap s.toks (s.toks + 1) fun _ _ h => h
    simpa [py2, PyData.shown] using this
  | str cs h => exact absurd rfl (ns cs)
  | ty n => simp [dq] at hp
  | gl h => simp [dq] at hp
  | lst _ _ _ => simp [dq] at hp
  | ins _ _ _ => simp [dq] at hp
  | exc _ _ _ _ => simp [dq] at hp
  | tup h r l =>
    cases ru
    exact PySem.str_of_reads rd hs (fun _ => nm) z.gd (by omega) (fun _ _ h => h) (fun h' t tk hk => fin h' t tk hk) hsz
  | dct h r l =>
    cases ru
    exact PySem.str_of_reads rd hs (fun _ => nm) z.gd (by omega) (fun _ _ h => h) (fun h' t tk hk => fin h' t tk hk) hsz
/-! ### lists of truths -/
def asBls : List D → Option (List Bool)
  | [] => some []
  | .bl b :: r => (asBls r).map (b :: ·)
  | _ => none
def isLst : D → Bool
  | .lst _ => true
  | _ => false
def dCount : D → List D → Option D
  | .lst xs, [.bl k] => (asBls xs).map fun bs => .int (bs.count k : Nat)
  | _, _ => none
def dIndexB : D → List D → Option D
  | .lst xs, [.bl k] => (asBls xs).bind fun bs => if bs.contains k then some (.int (bs.idxOf k : Nat)) else none
  | _, _ => none
theorem bls_of {K : PySem.W.Frag} {mg : Str → Option Value} {F : Hp} : ∀ {vs : List V} {ds : List D} {bs : List Bool}, Dns K mg F vs ds → asBls ds = some bs → vs = bs.map V.bl
  | _, [], bs, .nil, e => by cases e; rfl
  | _, d :: ds, bs, .cons h r, e => by
    cases d <;> simp only [asBls] at e <;> try cases e
    obtain ⟨cs, e1, rfl⟩ := Option.map_eq_some_iff.mp e
    cases h
    rw [bls_of r e1]
    rfl
theorem vbls_of : ∀ {bs : List Bool} {us : List Value}, Vals (bs.map V.bl) us → us = bs.map Value.bool
  | [], _, r => by cases r; rfl
  | b :: bs, us, r => by
    cases r with
    | cons h r =>
      cases h
      rw [vbls_of r]
      rfl
def rCntB (K : PySem.W.Frag) : V → List V → Hp → VK → Prop := fun x xs H Q => ∃ (p : Addr) (bs : List Bool) (k : Bool), x = .ref p ∧ xs = [.bl k] ∧ SqL K H p (bs.map V.bl) ∧ Q (.int (bs.count k : Nat)) H
theorem mt_countB {X : Cx} : MtR X "list.count" (rCntB X.K) := by
  intro pins s σ H x xs v us Q I rx rxs ⟨p, bs, k, e1, e2, hs, q⟩
  subst e1 e2
  cases rx
  obtain ⟨u, rfl, ru⟩ := rxs.one
  obtain rfl : u = Value.bool k := ru
  obtain ⟨its, rv, ⟨⟨cls, dd, data, sl⟩, n, ho, hc, hdn, hd⟩, hlen⟩ := I.list hs
  simp only at hc hd
  subst hc hd
  have hi := vbls_of rv
  refine call_meets PySem.F.slot_list_count ⟨_, ho, rfl⟩ PySem.F.entry_list_count (PySem.F.args_list_count_2 _ _)
    (SeqAt.list_countAt p its.toArray n dd sl (.bool k) (fun y => y == .bool k)) ⟨ho, fun y hy => ?_, ?_⟩
  · obtain ⟨b, hb, rfl⟩ := List.mem_map.mp (by rw [← hi]; simpa using hy)
    have := eqAt_V (A := X.A.in1) (s := s) (y := .bl b) (x := .bl k) (u := .bool b) (v := .bool k) rfl rfl rfl rfl
    have e : (Value.bool b == Value.bool k) = (b == k) := by cases b <;> cases k <;> decide
    show SeqAt.EqAt _ _ _ _ (Value.bool b == Value.bool k)
    rw [e]
    exact this
  · have ec : its.toArray.toList.countP (fun y => y == .bool k) = bs.count k := by
      rw [hi]
      simp only [List.countP_map, List.count]
      congr 1
      funext b
      cases b <;> cases k <;> decide
    refine ⟨.int (bs.count k : Nat), H, I.tok _, ⟨s.toks, ?_⟩, q⟩
    show Value.int ((its.toArray.toList.countP (fun y => y == .bool k) : Nat) : Int) s.toks = _
    rw [ec]
theorem ed_lstm {id : String} {name : Str} {r : D → List D → Option D} {o e : Expr} {es : List Expr} {fo : M D} {f : M (List D)} {apos cpos : Pos} (hm : MCl c id r) (slot : Slot "list" name id) (hty : typeOf (.builtin id) = pure (.type "method_descriptor")) (ho : ED c o fo) (ha : EA c (e :: es) f)
    (hbase : ∀ env, attributeBase o name env (eval o env) = eval o env := by intro _; rfl)
    (hfew : ∀ env, ((backTo cpos (starEach (e :: es) env)).all (fun x => !x.1) && (backToKw cpos (keywordEach [] env)).all (fun x => x.1.isSome) && decide ((e :: es).length + ([] : List Keyword).length + (if ([] : List Keyword).isEmpty then 0 else 1) < 30)) = true := by intro _; rfl)
    (hline : (apos.endLine == cpos.line) = true := by rfl) (hs : ∀ env, starEach (e :: es) env = (false, eval e env) :: starEach es env := by intro _; rfl) (hpl : ∀ env, (backTo cpos (starEach es env)).any (·.1) = false := by intro _; rfl) :
    ED c (.Call (.Attribute o name apos) (e :: es) [] cpos) (opMt isLst r fo f) := fun G X W z => by
  obtain ⟨rV, mt, ok⟩ := hm X W z
  refine pe_imp (pe_bm PySem.F.plainAttrs_list slot hty mt (ho G X W z) (ha G X W z) (hbase _) (hfew _) hline (hs _) (hpl _)) fun σ H Q ⟨F, ρ, R, q⟩ => ?_
  refine tG_bind R q fun F1 H1 ρ1 x dx s1 R1 rx q1 => ?_
  split at q1
  case isFalse => exact q1.elim
  rename_i ht
  refine ⟨?_, ?_⟩
  · cases rx <;> try cases ht
    rename_i h1 _ _
    exact .inl ⟨rfl, _, .inl (same_rd R1.fh h1)⟩
  · refine tG_bind R1 q1 fun F2 H2 ρ2 xs ds s2 R2 rxs q2 => ?_
    obtain ⟨d, e, af⟩ := q2.lift R2
    exact ok F2 H2 x dx xs ds d _ R2.fh (rx.mono s2) rxs e af
theorem m_countB : MCl c "list.count" dCount := fun X W z => ⟨_, mt_countB, by
  intro F H x dx xs ds d Q s rx rxs e a
  unfold dCount at e
  split at e
  · rename_i ys k
    obtain ⟨bs, e1, rfl⟩ := Option.map_eq_some_iff.mp e
    cases rxs with
    | cons r1 r2 =>
    cases r2
    cases r1
    cases rx
    rename_i vs h1 r0 hl
    have := bls_of r0 e1
    subst this
    exact ⟨_, bs, k, rfl, rfl, .inl (same_rd s h1), a.here s (.int _)⟩
  · cases e⟩
theorem m_indexB : MCl c "list.index" dIndexB := fun X W z => ⟨_, mt_index, by
  intro F H x dx xs ds d Q s rx rxs e a
  unfold dIndexB at e
  split at e
  · rename_i ys k
    obtain ⟨bs, e1, e2⟩ := Option.bind_eq_some_iff.mp e
    split at e2
    case isFalse => cases e2
    rename_i hc
    cases e2
    cases rxs with
    | cons r1 r2 =>
    cases r2
    cases r1
    cases rx
    rename_i vs h1 r0 hl
    have := bls_of r0 e1
    subst this
    have hk : k ∈ bs := List.contains_iff_mem.mp hc
    have hlt : bs.idxOf k < bs.length := List.idxOf_lt_length_iff.mpr hk
    have hg : bs[bs.idxOf k]? = some k := by rw [List.getElem?_eq_getElem hlt, List.getElem_idxOf]
    refine ⟨_, bs.map V.bl, .bl k, bs.idxOf k, .bl k, rfl, rfl, .inl (same_rd s h1), rfl, List.all_eq_true.mpr fun v hv => ?_, by rw [List.getElem?_map, hg]; rfl, by simp [eqV], fun m z' hm hz => ?_, a.here s (.int _)⟩
    · obtain ⟨b, _, rfl⟩ := List.mem_map.mp hv
      rfl
    · rw [List.getElem?_map] at hz
      obtain ⟨b, hb, rfl⟩ := Option.map_eq_some_iff.mp hz
      have : b ≠ k := fun e => by
        subst e
        have q := List.not_of_lt_findIdx (p := (· == b)) (xs := bs) (i := m) (by unfold List.idxOf at hm; exact hm)
        have w := (List.getElem?_eq_some_iff.mp hb).2
        rw [w] at q
        simp at q
      simpa [eqV] using this
  · cases e⟩
theorem xcntB {o e : Expr} {fo : M D} {f : M D} {apos cpos : Pos} (ho : ED c o fo) (he : ED c e f) (hbase : ∀ env, attributeBase o "count" env (eval o env) = eval o env := by intro _; rfl) (h1 : ∀ env, starEach [e] env = [(false, eval e env)] := by intro _; rfl)
    (hfew : ∀ env, ((backTo cpos (starEach [e] env)).all (fun x => !x.1) && (backToKw cpos (keywordEach [] env)).all (fun x => x.1.isSome) && decide ([e].length + ([] : List Keyword).length + (if ([] : List Keyword).isEmpty then 0 else 1) < 30)) = true := by intro _; rfl)
    (hline : (apos.endLine == cpos.line) = true := by rfl) : ED c (.Call (.Attribute o "count" apos) [e] [] cpos) (opMt isLst dCount fo (argc f args0)) := ed_lstm m_countB PySem.F.slot_list_count PySem.F.type_list_count ho (ea_cons he ea_nil (h1)) hbase hfew hline h1 (fun _ => rfl)
theorem xidxB {o e : Expr} {fo : M D} {f : M D} {apos cpos : Pos} (ho : ED c o fo) (he : ED c e f) (hbase : ∀ env, attributeBase o "index" env (eval o env) = eval o env := by intro _; rfl) (h1 : ∀ env, starEach [e] env = [(false, eval e env)] := by intro _; rfl)
    (hfew : ∀ env, ((backTo cpos (starEach [e] env)).all (fun x => !x.1) && (backToKw cpos (keywordEach [] env)).all (fun x => x.1.isSome) && decide ([e].length + ([] : List Keyword).length + (if ([] : List Keyword).isEmpty then 0 else 1) < 30)) = true := by intro _; rfl)
    (hline : (apos.endLine == cpos.line) = true := by rfl) : ED c (.Call (.Attribute o "index" apos) [e] [] cpos) (opMt isLst dIndexB fo (argc f args0)) := ed_lstm m_indexB PySem.F.slot_list_index PySem.F.type_list_index ho (ea_cons he ea_nil (h1)) hbase hfew hline h1 (fun _ => rfl)
end
end DL
namespace DL
open PySem PySem.Spec PyProof.Rows L2
theorem bt_ValueError : bootBuiltins "ValueError" = some (.type "ValueError") := by decide +kernel
theorem bt_LookupError : bootBuiltins "LookupError" = some (.type "LookupError") := by decide +kernel
theorem bt_ArithmeticError : bootBuiltins "ArithmeticError" = some (.type "ArithmeticError") := by decide +kernel
/-! ### a def that catches, as it is printed -/
def catS : List Stmt → List Stmt
  | .Try _ [.ExceptHandler _ _ su _] _ _ _ :: _ => su
  | _ => []
theorem cat_mk {b : Base} {x : Str} {st : Stmt} {g : Addr} {fd : FuncData} {N : List Str} {a told e x1 x2 x3 : Str} {it ie k kk : Nat} {q1 q2 q3 q4 p1 p2 p3 tp pos pos' : Pos} {b0 : Stmt} {suite rest : List Stmt} {mS mR : M Fl} {tb : ErTab} (F : Fun b.K x x st g fd) (hm : b.mg x = some (.ref g)) (hb : Binds b.K fd [a] []) (S : FnScope N [a] (defScope st))
    (hss : defBody st = .Try [.Assign [.Name told q1] (.Call (.Name a q2) [] [] q3) q4] [.ExceptHandler (some (.Tuple [.Name x1 p1, .Name x2 p2, .Name x3 p3] kk tp)) (some e) (b0 :: suite) pos'] [] [] pos :: rest) (CT : CaT b tb x1 x2 x3) (hS : ∀ p, ESs (stX b N (defScope st) k p) (b0 :: suite) mS) (hR : ESs (stOf b N (defScope st) k 1) rest mR)
    (h0 : N[0]? = some a := by kernel_rfl) (h1 : (defScope st).names.lookup a = some .local := by kernel_rfl) (h2 : (a == ("__debug__" : Str)) = false := by kernel_rfl) (h3 : (a == ("__classdict__" : Str)) = false := by kernel_rfl)
    (h4 : N[it]? = some told := by kernel_rfl) (h5 : (defScope st).names.lookup told = some .local := by kernel_rfl) (h6 : Nat.ble 1 it = true := by kernel_rfl) (h7 : N[ie]? = some e := by kernel_rfl) (h8 : (defScope st).names.lookup e = some .local := by kernel_rfl) (h9 : Nat.ble 1 ie = true := by kernel_rfl)
    (g1 : (defScope st).names.lookup x1 = some .globalImplicit := by kernel_rfl) (g2 : (x1 == ("__debug__" : Str)) = false := by kernel_rfl) (g3 : (defScope st).names.lookup x2 = some .globalImplicit := by kernel_rfl) (g4 : (x2 == ("__debug__" : Str)) = false := by kernel_rfl) (g5 : (defScope st).names.lookup x3 = some .globalImplicit := by kernel_rfl) (g6 : (x3 == ("__debug__" : Str)) = false := by kernel_rfl) :
    Cat b k x tb (catO N.length it mR) (catX N.length ie mS) :=
  ⟨st, g, fd, N, a, F, hm, F.kp, hb, S, ⟨it, ie, told, e, x1, x2, x3, q1, q2, q3, q4, p1, p2, p3, tp, pos, pos', kk, b0, suite, rest, mS, mR, hss, h0, h1, h2, h3, h4, h5, Nat.le_of_ble_eq_true h6, h7, h8, Nat.le_of_ble_eq_true h9, g1, g2, g3, g4, g5, g6, CT, hS, hR, rfl, rfl⟩⟩
/-! ### the end, as it is printed -/
theorem tab_go {R : Prop} {q : Program} {K : PySem.W.Frag} {h : Heap} (TB : TabF q K h) {x : Str} {d : DefRec} {f c0 T0 : Addr} {o1 o2 : Value} {d1 d2 : Option Addr} {fd : FuncData} {sl1 sl2 : Array (Option Value)} {vs : Array Value} (hr : (recsOf q).find? (fun e => e.name == x) = some d) (a : PySem.W.nsIn K mainGlobals x = some (some (.ref f)))
    (l : K.lookup f = some ⟨o1, d1, .func fd, sl1⟩) (hc : fd.code = .ref c0) (l2 : K.lookup c0 = some ⟨o2, d2, .fields vs, sl2⟩) (hv : (vs[11]? : Option Value) = some (.ref T0)) (r : PySem.W.CodeHd h c0 T0 → h.get? T0 = some { cls := .none, data := .fields #[] } → R) : R :=
  let ⟨h1, h2⟩ := TB x c0 T0 d hr (tabIn_of a l hc l2 hv); r h1 h2
end DL

/-! a sequence against the empty one, whatever it holds; errors and catchers at a frame -/
namespace DL
open PySem PySem.Spec PyProof.Rows L2
section
variable {c : Stat}
def dEqE : D → D → Option D
  | .tup xs, .tup [] => some (.bl xs.isEmpty)
  | .lst xs, .lst [] => some (.bl xs.isEmpty)
  | _, _ => none
def dNeE : D → D → Option D
  | .lst xs, .lst [] => some (.bl !xs.isEmpty)
  | _, _ => none
def rEqE (K : PySem.W.Frag) : R2 := fun x y H Q => ∃ a b xs, x = .ref a ∧ y = .ref b ∧ ((SqT K H a xs ∧ SqT K H b []) ∨ (SqL K H a xs ∧ SqL K H b [])) ∧ Q (.bl xs.isEmpty) H
theorem vals_nil {us : List Value} (r : Vals [] us) : us = [] := by cases r; rfl
theorem op_eqE {X : Cx} (hu : X.A.units < cLine) : OpR X (compareOp .Eq) (rEqE X.K) := by
  intro pins s σ H x y v u Q I rx ry ⟨a, b, xs, e1, e2, h, q⟩
  subst e1 e2
  cases rx
  cases ry
  rcases h with ⟨h1, h2⟩ | ⟨h1, h2⟩
  · obtain ⟨its, rv, p1, _⟩ := I.tuple h1
    obtain ⟨its2, rv2, p2, _⟩ := I.tuple h2
    have := vals_nil rv2
    subst this
    refine PySem.SeqAt.eq_tupleAt (e := fun _ => true) p1 p2 hu (fun j _ h => absurd h (by simp)) ?_
    refine ⟨.bl xs.isEmpty, H, I, ?_, q⟩
    have hl := rv.length
    cases xs with
    | nil => cases its with
      | nil => rfl
      | cons _ _ => cases hl
    | cons _ _ => cases its with
      | nil => cases hl
      | cons _ _ => rfl
  · obtain ⟨its, rv, p1, _⟩ := I.list h1
    obtain ⟨its2, rv2, p2, _⟩ := I.list h2
    have := vals_nil rv2
    subst this
    have hl := rv.length
    cases its with
    | nil =>
      refine PySem.SeqAt.eq_listAt (e := fun _ => true) p1.isList p2.isList rfl hu (fun j h _ => absurd h (by simp)) ⟨.bl xs.isEmpty, H, I, ?_, q⟩
      cases xs with
      | nil => rfl
      | cons _ _ => cases hl
    | cons _ _ =>
      refine PySem.SeqAt.eq_list_lengthsAt p1.isList p2.isList (by simp) hu ⟨.bl xs.isEmpty, H, I, ?_, q⟩
      cases xs with
      | nil => cases hl
      | cons _ _ => rfl
def rNeE (K : PySem.W.Frag) : R2 := fun x y H Q => ∃ a b xs, x = .ref a ∧ y = .ref b ∧ SqL K H a xs ∧ SqL K H b [] ∧ Q (.bl !xs.isEmpty) H
theorem op_neE {X : Cx} (hu : X.A.units < cLine) : OpR X (compareOp .NotEq) (rNeE X.K) := by
  intro pins s σ H x y v u Q I rx ry ⟨a, b, xs, e1, e2, h1, h2, q⟩
  subst e1 e2
  cases rx
  cases ry
  obtain ⟨its, rv, p1, _⟩ := I.list h1
  obtain ⟨its2, rv2, p2, _⟩ := I.list h2
  have := vals_nil rv2
  subst this
  have hl := rv.length
  cases its with
  | nil =>
    refine PySem.SeqAt.RcNeAt.lists (e := fun _ => true) p1.isList p2.isList rfl hu (fun j h _ => absurd h (by simp)) _ _ _ _ ⟨.bl !xs.isEmpty, H, I, ?_, q⟩
    cases xs with
    | nil => rfl
    | cons _ _ => cases hl
  | cons _ _ =>
    refine PySem.SeqAt.RcNeAt.lists_lengths p1.isList p2.isList (by simp) hu _ _ _ _ ⟨.bl !xs.isEmpty, H, I, ?_, q⟩
    cases xs with
    | nil => cases hl
    | cons _ _ => rfl
end
@[simp] theorem dEqE_tup (xs : List D) : dEqE (.tup xs) (.tup []) = some (.bl xs.isEmpty) := nrfl rfl
@[simp] theorem dEqE_lst (xs : List D) : dEqE (.lst xs) (.lst []) = some (.bl xs.isEmpty) := nrfl rfl
@[simp] theorem dNeE_lst (xs : List D) : dNeE (.lst xs) (.lst []) = some (.bl !xs.isEmpty) := nrfl rfl
/-! ### errors at a frame -/
def xcR : Option Sl → R Xc
  | some (.xc x) => .ok x
  | _ => .bad
@[simp] theorem xcR_xc (x : Xc) : xcR (some (.xc x)) = .ok x := nrfl rfl
theorem at_xcAt {α : Type} (i : Nat) (m : Xc → M α) (ρ : En) : xcAt i m ρ = (xcR ρ[i]?).k ρ fun x => m x ρ := by
  unfold xcAt xcR
  generalize ρ[i]? = o
  cases o with
  | none => rfl
  | some s => cases s <;> rfl
@[simp] theorem at_isX (tb : ErTab) (own bt : List String) (i : Nat) (a : M D) (ρ : En) : isX tb own bt i a ρ = (xcR ρ[i]?).k ρ fun x => (a ρ).b fun k => lift (dIsX tb own bt x k) := by
  unfold isX; rw [at_xcAt]; rfl
@[simp] theorem at_fldX (tb : ErTab) (i : Nat) (f : String) (ρ : En) : fldX tb i f ρ = (xcR ρ[i]?).k ρ fun x => (R.of (dFldX tb f x)).k ρ fun d => .ok d ρ := by
  unfold fldX; rw [at_xcAt]; congr 1; funext x; rw [at_lift]
@[simp] theorem at_calX (g : Xc → Option D) (i : Nat) (ρ : En) : calX g i ρ = (xcR ρ[i]?).k ρ fun x => (R.of (g x)).k ρ fun d => .ok d ρ := by
  unfold calX; rw [at_xcAt]; congr 1; funext x; rw [at_lift]
@[simp] theorem at_raiM (n f : String) (m : M D) (ρ : En) : raiM n f m ρ = (m ρ).b fun d ρ1 => .err ⟨n, [(f, d)]⟩ ρ1 := nrfl rfl
def Out.ca (tb : ErTab) (gO : D → Option D) (gX : Xc → Option D) (o : Out D) : Out D := match o with
  | .ok d ρ' => (R.of (gO d)).k ρ' fun r => .ok r ρ'
  | .err x ρ' => if (erOf tb x.c).isSome then (R.of (gX x)).k ρ' fun r => .ok r ρ' else .bad
  | .bad => .bad
@[simp] theorem at_cauM (tb : ErTab) (gO : D → Option D) (gX : Xc → Option D) (m : M D) (ρ : En) : cauM tb gO gX m ρ = (m ρ).ca tb gO gX := by
  unfold cauM Out.ca
  cases m ρ with
  | ok d ρ' => dsimp only; cases gO d <;> rfl
  | err x ρ' => dsimp only; split
                · cases gX x <;> rfl
                · rfl
  | bad => rfl
section
variable {tb : ErTab} {gO : D → Option D} {gX : Xc → Option D}
@[simp] theorem ca_ok (d : D) (ρ : En) : (Out.ok d ρ).ca tb gO gX = (R.of (gO d)).k ρ fun r => .ok r ρ := nrfl rfl
@[simp] theorem ca_err (x : Xc) (ρ : En) : (Out.err x ρ).ca tb gO gX = if (erOf tb x.c).isSome then (R.of (gX x)).k ρ fun r => .ok r ρ else .bad := nrfl rfl
/-- what the catcher makes of an answer -/
def R.c (tb : ErTab) (gO : D → Option D) (gX : Xc → Option D) (r : R D) : R D := match r with
  | .ok d => R.of (gO d)
  | .err x => if (erOf tb x.c).isSome then R.of (gX x) else .bad
  | .bad => .bad
end
@[simp] theorem un1_def (n i : Nat) (s : Sl) : un1 n i s = (List.replicate n .un).set i s := nrfl rfl
def optR (o : Out Fl) : Option D := match o with
  | .ok (.rt r) _ => some r
  | _ => none
@[simp] theorem optR_rt (d : D) (ρ : En) : optR (.ok (.rt d) ρ) = some d := nrfl rfl
@[simp] theorem optR_ite (p : Prop) [Decidable p] (x y : Out Fl) : optR (if p then x else y) = if p then optR x else optR y := by split <;> rfl
theorem forL_cons_err {t : Tg} {body : M Fl} {d : D} {r : List D} {ρ ρ' : En} {x : Xc} (h : turn t body d ρ = .err x ρ') : forL t body (d :: r) ρ = .err x ρ' := by
  unfold turn at h
  show (match t d ρ with
    | none => Out.bad
    | some ρ' => match body ρ' with
      | .ok .nx ρ2 => forL t body r ρ2
      | .ok .ct ρ2 => forL t body r ρ2
      | .ok .bk ρ2 => .ok .nx ρ2
      | o => o : Out Fl) = _
  cases e : t d ρ with
  | none => rw [e] at h; cases h
  | some ρ1 =>
    rw [e] at h
    dsimp only at h ⊢
    rw [h]
theorem forL_findX {τ : Type} {t : Tg} {body : M Fl} (g : τ → D) (ρ : En) (p : τ → Bool) (e : τ → Xc) (ρ' : τ → En) : ∀ (xs : List τ), (∀ x ∈ xs, turn t body (g x) ρ = if p x = true then .err (e x) (ρ' x) else .ok .nx ρ) → forL t body (xs.map g) ρ = match xs.find? p with
    | some x => .err (e x) (ρ' x)
    | none => .ok .nx ρ
  | [], _ => rfl
  | x :: r, h => by
    have h0 := h x List.mem_cons_self
    rw [List.map_cons]
    cases hp : p x with
    | true =>
      rw [hp, if_pos rfl] at h0
      rw [forL_cons_err h0, List.find?_cons_of_pos hp]
    | false =>
      rw [hp, if_neg Bool.false_ne_true] at h0
      rw [forL_cons_nx h0, List.find?_cons_of_neg (by rw [hp]; exact Bool.false_ne_true), forL_findX g ρ p e ρ' r fun y hy => h y (List.mem_cons_of_mem _ hy)]
end DL

/-! x = y + z of two lists, x an own list from then on -/
namespace DL
open PySem L2
section
variable {c : Stat}
def owCat (x y : D) : M Sl := match x, y with
  | .lst xs, .lst ys => if xs.length + ys.length ≤ sz then ret (.ow (.lst (xs ++ ys))) else fun _ => .bad
  | _, _ => fun _ => .bad
def owAdd (a b : M D) : M Sl := bnd a fun x => bnd b fun y => owCat x y
theorem ev_addL {a b : Expr} {f g : M D} {pos : Pos} (ha : ED c a f) (hb : ED c b g) : EV c (.BinOp a .Add b pos) (owAdd f g) := fun G X W z => by
  refine pe_imp (pe_op op_catR (ha G X W z) (hb G X W z)) fun σ H Q ⟨F, ρ, R, q⟩ => ?_
  refine tG_bindV R q fun F1 H1 ρ1 x dx s1 R1 rx q1 => ?_
  refine tG_bindV R1 q1 fun F2 H2 ρ2 y dy s2 R2 ry q2 => ?_
  have rx := rx.mono s2
  unfold owCat at q2
  cases rx <;> try exact q2.elim
  cases ry <;> try exact q2.elim
  rename_i h1 r1 l1 _ _ _ h2 r2 l2
  dsimp only at q2
  split at q2
  · rename_i hl
    refine ⟨_, _, _, _, rfl, rfl, same_rd R2.fh h1, same_rd R2.fh h2, by rw [sz_eq, r1.length, r2.length]; exact hl, fun p hp => ?_⟩
    obtain ⟨R3, s3⟩ := fresh_own (d := .lst _) (o := .lst _) R2 hp ⟨_, upd_same, r1.append r2⟩
    exact q2 _ F2 _ (Same.refl _) R3 s3
  · exact q2.elim
@[simp] theorem at_owAdd (a b : M D) (ρ : En) : owAdd a b ρ = (a ρ).b fun x ρ1 => (b ρ1).b fun y ρ2 => owCat x y ρ2 := by
  unfold owAdd bnd
  cases a ρ with
  | ok x ρ1 => rfl
  | err x ρ1 => rfl
  | bad => rfl
@[simp] theorem owCat_lst (xs ys : List D) (ρ : En) : owCat (.lst xs) (.lst ys) ρ = if xs.length + ys.length ≤ sz then .ok (.ow (.lst (xs ++ ys))) ρ else .bad := by
  unfold owCat
  dsimp only
  split <;> rfl
end
end DL

/-! try with one class that nobody names; class methods; split -/
namespace DL
open PySem PySem.Spec PyProof.Rows L2
/-! ### try: .. except C: .. -/
def tryM (cl : String) (mb ms : M Fl) : M Fl := fun ρ => match mb ρ with
  | .ok fl ρ' => .ok fl ρ'
  | .err x ρ' => if x.c = cl then (match ms ρ' with
    | .ok fl ρ2 => .ok fl ρ2
    | _ => .bad) else .bad
  | .bad => .bad
def stH (c : Stat) : Stat := { c with hot := true, lam := none, fr := false }
/-- the class cl of the module catches itself -/
def CatO (b : Base) (cl : String) : Prop := ∃ C, b.mg (Str.ofString cl) = some (.ref C) ∧ PySem.W.exmOne b.K (.ref C) (.ref C) = some true
section
variable {c : Stat}
theorem es_tryO {cl : String} {body suite : List Stmt} {b0 : Stmt} {np pos pos' : Pos} {mb ms : M Fl} (T : CatO c.toBase cl) (hg : Gn c (Str.ofString cl)) (hb : ESs c body mb) (hs : ESs (stH c) (b0 :: suite) ms) (hdb : (Str.ofString cl == ("__debug__" : Str)) = false := by decide)
    (hc : c.hot = false := by first | rfl | assumption) (hf : c.fr = true := by first | rfl | assumption) : ES c (.Try body [.ExceptHandler (some (.Name (Str.ofString cl) np)) none (b0 :: suite) pos'] [] [] pos) (tryM cl mb ms) := fun G X W hp z => by
  obtain ⟨C, hm, hx⟩ := T
  obtain ⟨f1, f2⟩ := z.fr hf
  have ext : c.xt = ⟨c.T, none⟩ := by unfold Stat.xt; rw [z.xh hc]
  have exh : (stH c).xt = ⟨c.T, none⟩ := by unfold Stat.xt; show Xt.mk c.T c.xe = _; rw [z.xh hc]
  refine ps_imp (ps_try_only (X := X) (tb := fun W' => tS c G W' mb) (ts := fun a cls d => tS (stH c) G (fun _ _ _ _ => False) ms) (Wout := fun _ _ _ _ => False) f1 f2 (c := .ref C) ⟨hg.gl z, hdb, .inl (by rw [z.mg]; exact hm)⟩ takes0 (fun W' pn xe tk po => ?_) (fun a oe cls d pn hz hfl => ?_)) fun D σ H ⟨F, ρ, R, q⟩ => ?_
  · exact hb G _ _ hp { P := z.P, w := z.w, K := z.K, mg := z.mg, base := z.base, N := z.N, sc := z.sc, nd := z.nd, fnc := z.fnc, calm := z.calm, room := z.room, hd := z.hd, xp := (fun p e => by rw [z.xh hc] at e; cases e), xh := z.xh, gd := z.gd, lm := z.lm, fr := z.fr, tk := tk, po := po }
  · exact hs G _ _ hp { P := z.P, w := z.w, K := z.K, mg := z.mg, base := z.base, N := z.N, sc := z.sc, nd := z.nd, fnc := z.fnc, calm := (fun e => nomatch e), room := ⟨z.room.dp, z.room.un⟩, hd := (fun e => nomatch e), xp := (fun p e => by have e : c.xe = some p := e; rw [z.xh hc] at e; cases e), xh := (fun e => nomatch e), gd := z.gd, lm := (fun _ _ e => nomatch e), fr := (fun e => nomatch e), tk := takes0, po := PassesOwn.never }
  · refine ⟨F, ρ, R, ?_⟩
    unfold tryM at q
    cases e : mb ρ with
    | bad => rw [e] at q; exact q.elim
    | ok fl ρ' => rw [e] at q; cases fl <;> exact q
    | err x ρ' =>
      rw [e] at q
      dsimp only at q
      split at q
      case isFalse => exact q.elim
      rename_i hxc
      intro σ' F' H' cls d s' R' xr
      obtain ⟨C', k1, k2, k3⟩ := id xr
      rw [hxc] at k1
      cases hm.symm.trans k1
      refine ⟨true, by rw [z.K, k2]; exact hx, fun _ a na => ?_, fun e => nomatch e⟩
      refine ⟨F', ρ', R', ?_⟩
      have q := PostS.mono s' q
      cases em : ms ρ' with
      | bad => rw [em] at q; exact q.elim
      | err x2 ρ2 => rw [em] at q; exact q.elim
      | ok fl ρ2 =>
        rw [em] at q
        cases fl <;> exact q
/-! ### C.m(..), a class method -/
structure CmD (b : Base) (k : Nat) (cl m : String) (n : Nat) (ks : List Str) (ix : List Nat) (g : List D → OutF) : Prop where
  ex : ∃ C mc p f fd ps, ClD b cl C ∧ ClX.CRead b.K C mc ∧ ClX.CMet b.K C mc (Str.ofString m) p f ∧ FnG b.P b.w b.K b.mg b.base k f fd ps (spF b [] g) ∧ KBx fd ps (n + 1) ks ix
def cmM (cl : String) (g : List D → OutF) (n m : Nat) (ix : List Nat) (a kw : M (List D)) : M D := bnd a fun ds => bnd kw fun es ρ => if ds.length = n ∧ es.length = m then (match g (pick ix ((.gl cl :: ds) ++ es)) with
  | .ok d _ => .ok d ρ
  | .err x _ => .err x ρ
  | _ => .bad) else .bad
theorem callwith_cmG {X : Cx} {pins : List (Addr × Obj)} {σ : L2.St} {H : Hp} {s : Shared} {pos : Pos} {C g q : Addr} {e : Expr} {es : List Expr} {kws : List Keyword} {Q : Value → Shared → Prop} {E : Value → Shared → Prop} {A : Around} (I : Inv X ((q, PySem.W.methodObj (.ref g) (.ref C)) :: pins) σ H s) (hf : PySem.W.fnIn X.K g = true) (hall : (backToKw pos (keywordEach kws X.env)).all (·.1.isSome) = true)
    (h : wpAny (model X.prog X.w) A (spliced (backTo pos (starEach (e :: es) X.env))) (fun vs s₁ => wpAny (model X.prog X.w) A (evalAll ((backToKw pos (keywordEach kws X.env)).map (·.2)))
      (fun ks s₂ => PySem.W.MethP X.K q g (.ref C) s₂.heap ∧ wpAny (model X.prog X.w) A (call (.ref q) ([] ++ vs) (((backToKw pos (keywordEach kws X.env)).filterMap (·.1)).zip ks)) Q E s₂) E s₁) E s)
    (he : starEach (e :: es) X.env = (false, eval e X.env) :: starEach es X.env) (hpl : ((backTo pos (starEach (e :: es) X.env)).any (·.1) || (backToKw pos (keywordEach kws X.env)).any (·.1.isNone)) = false) :
    wpAny (model X.prog X.w) A (callWith pos (.ref q) [] (backTo pos (starEach (e :: es) X.env)) (backToKw pos (keywordEach kws X.env))) Q E s :=
  PySem.W.callWith_of hpl (PySem.W.keeps_M hf) (evalArgs_kw2 hall h he)
theorem callwith_cmG0 {X : Cx} {pins : List (Addr × Obj)} {σ : L2.St} {H : Hp} {s : Shared} {pos : Pos} {C g q : Addr} {kws : List Keyword} {Q : Value → Shared → Prop} {E : Value → Shared → Prop} {A : Around} (I : Inv X ((q, PySem.W.methodObj (.ref g) (.ref C)) :: pins) σ H s) (hf : PySem.W.fnIn X.K g = true) (hall : (backToKw pos (keywordEach kws X.env)).all (·.1.isSome) = true)
    (h : wpAny (model X.prog X.w) A (evalAll ((backToKw pos (keywordEach kws X.env)).map (·.2)))
      (fun ks s₂ => PySem.W.MethP X.K q g (.ref C) s₂.heap ∧ wpAny (model X.prog X.w) A (call (.ref q) ([] ++ []) (((backToKw pos (keywordEach kws X.env)).filterMap (·.1)).zip ks)) Q E s₂) E s)
    (hpl : ((backTo pos (starEach [] X.env)).any (·.1) || (backToKw pos (keywordEach kws X.env)).any (·.1.isNone)) = false) :
    wpAny (model X.prog X.w) A (callWith pos (.ref q) [] (backTo pos (starEach [] X.env)) (backToKw pos (keywordEach kws X.env))) Q E s :=
  PySem.W.callWith_of hpl (PySem.W.keeps_M hf) (evalArgs_kw2_nil hall h)
theorem run_cmG {X : Cx} {pins : List (Addr × Obj)} {σ : L2.St} {H : Hp} {s : Shared} {k n : Nat} {q C g : Addr} {fd : FuncData} {ps ks : List Str} {ix : List Nat} {sp : Sp} {E : L2.St → XK} {Q : VK} {us ws : List Value} {vs zs : List V} (F : FnG X.prog X.w X.K X.mg X.base k g fd ps sp) (hr : Room k X.A) (hg : X.A.guards = some []) (hb : KBx fd ps (n + 1) ks ix)
    (hx : PassesAt (L2.CX X.prog X.w) X σ (E σ)) (I : Inv X ((q, PySem.W.methodObj (.ref g) (.ref C)) :: pins) σ H s) (r : Vals vs us) (rz : Vals zs ws) (l1 : vs.length = n) (l2 : zs.length = ks.length) (h : sp (pick ix ((.ref C :: vs) ++ zs)) H Q (E σ)) :
    wpAny (model X.prog X.w) X.A (call (.ref q) us (ks.zip ws)) (EP X pins σ Q) X.xe s := by
  obtain ⟨b1, b2⟩ := hb (.ref C :: us) ws (by simp [← r.length, l1]) (rz.length.symm.trans l2)
  have r' : Vals (.ref C :: vs) (.ref C :: us) := .cons rfl r
  have z : wpAny (model X.prog X.w) X.A (call (.ref q) us (ks.zip ws)) (EP X ((q, PySem.W.methodObj (.ref g) (.ref C)) :: pins) σ Q) X.xe s := by
    refine wpAny_call (PySem.W.method_call (ClX.pin_at I) (codeAny_mono (F.run X.A X.stack s H ⟨.ref C :: us, ks.zip ws⟩ _ _ Q (E σ) hr hg I.env0 (.of_eq b1) (vals_pick (r'.append rz) ix) h) fun r s' hq => ?_))
    have q := CR.end_ I hx hq
    cases r with
    | error e => exact q
    | ok fl => cases fl <;> exact q
  exact thn z fun _ _ y => ClX.unpinE y
def tCmG (C : Addr) (n m : Nat) (ix : List Nat) (sp : Sp) (E : L2.St → XK) (t tk : TA) : TE := fun σ H Q => t σ H fun vs H1 => tk σ H1 fun zs H2 => vs.length = n ∧ zs.length = m ∧ sp (pick ix ((.ref C :: vs) ++ zs)) H2 Q (E σ)
theorem pe_cmG {X : Cx} {k n : Nat} {C p g : Addr} {mc : Value} {fd : FuncData} {ps ks : List Str} {ix : List Nat} {sp : Sp} {E : L2.St → XK} {x m : Str} {xp pos apos : Pos} {e : Expr} {es : List Expr} {kws : List Keyword} {t tk : TA} {pl : Sem Bool} (hgl : Gl X x) (hmx : X.mg x = some (.ref C)) (hdb : (x == ("__debug__" : Str)) = false) (r : ClX.CRead X.K C mc) (cm : ClX.CMet X.K C mc m p g) (F : FnG X.prog X.w X.K X.mg X.base k g fd ps sp) (hr : Room k X.A) (hgd : X.A.guards = some []) (hb : KBx fd ps (n + 1) ks ix) (hx : ∀ σ, PassesAt (L2.CX X.prog X.w) X σ (E σ)) (ha : PA X (e :: es) t) (hkw : PK X kws tk)
    (hall : (backToKw pos (keywordEach kws X.env)).all (·.1.isSome) = true) (hks : (backToKw pos (keywordEach kws X.env)).filterMap (·.1) = ks)
    (he : starEach (e :: es) X.env = (false, eval e X.env) :: starEach es X.env) (hpl : ((backTo pos (starEach (e :: es) X.env)).any (·.1) || (backToKw pos (keywordEach kws X.env)).any (·.1.isNone)) = false)
    (ht : eval (.Call (.Attribute (.Name x xp) m apos) (e :: es) kws pos) X.env = (do
      let ov ← eval (.Name x xp) X.env
      standAt apos.atName
      let (f, first) ← holding [ov] (getMethod ov m pl)
      callWith pos f first (backTo pos (starEach (e :: es) X.env)) (backToKw pos (keywordEach kws X.env)))) : PE X (.Call (.Attribute (.Name x xp) m apos) (e :: es) kws pos) (tCmG C n ks.length ix sp E t tk) := by
  refine ⟨fun pins s σ H Q I h => PySem.W.methodCall_KW (pl := pl) (ld_glob I hgl hmx ?_ hdb) ht⟩
  refine ClX.getmethcm_ok I r cm fun s2 I2 => ?_
  refine callwith_cmG I2 cm.fi hall (thn (ha.run pos _ s2 σ H _ I2 h) fun us s3 ⟨vs, H1, I3, rv, q⟩ => ?_) he hpl
  refine thn (hkw.run pos _ s3 σ H1 _ I3 q) fun ws s4 ⟨zs, H2, I4, rz, l1, l2, q2⟩ => ⟨⟨ClX.pin_at I4, I4.kIn⟩, ?_⟩
  rw [hks]
  exact run_cmG F hr hgd hb (hx σ) I4 rv rz l1 l2 q2
theorem pe_cmG0 {X : Cx} {k : Nat} {C p g : Addr} {mc : Value} {fd : FuncData} {ps ks : List Str} {ix : List Nat} {sp : Sp} {E : L2.St → XK} {x m : Str} {xp pos apos : Pos} {kws : List Keyword} {tk : TA} {pl : Sem Bool} (hgl : Gl X x) (hmx : X.mg x = some (.ref C)) (hdb : (x == ("__debug__" : Str)) = false) (r : ClX.CRead X.K C mc) (cm : ClX.CMet X.K C mc m p g) (F : FnG X.prog X.w X.K X.mg X.base k g fd ps sp) (hr : Room k X.A) (hgd : X.A.guards = some []) (hb : KBx fd ps 1 ks ix) (hx : ∀ σ, PassesAt (L2.CX X.prog X.w) X σ (E σ)) (hkw : PK X kws tk)
    (hall : (backToKw pos (keywordEach kws X.env)).all (·.1.isSome) = true) (hks : (backToKw pos (keywordEach kws X.env)).filterMap (·.1) = ks) (hpl : ((backTo pos (starEach [] X.env)).any (·.1) || (backToKw pos (keywordEach kws X.env)).any (·.1.isNone)) = false)
    (ht : eval (.Call (.Attribute (.Name x xp) m apos) [] kws pos) X.env = (do
      let ov ← eval (.Name x xp) X.env
      standAt apos.atName
      let (f, first) ← holding [ov] (getMethod ov m pl)
      callWith pos f first (backTo pos (starEach [] X.env)) (backToKw pos (keywordEach kws X.env)))) : PE X (.Call (.Attribute (.Name x xp) m apos) [] kws pos) (tCmG C 0 ks.length ix sp E tNil tk) := by
  refine ⟨fun pins s σ H Q I h => PySem.W.methodCall_KW (pl := pl) (ld_glob I hgl hmx ?_ hdb) ht⟩
  refine ClX.getmethcm_ok I r cm fun s2 I2 => ?_
  refine callwith_cmG0 I2 cm.fi hall ?_ hpl
  refine thn (hkw.run pos _ s2 σ H _ I2 h) fun ws s4 ⟨zs, H2, I4, rz, l1, l2, q2⟩ => ⟨⟨ClX.pin_at I4, I4.kIn⟩, ?_⟩
  rw [hks]
  exact run_cmG (us := []) (vs := []) F hr hgd hb (hx σ) I4 .nil rz rfl l2 q2
theorem post_cm {G : Ent} {W : WX} {σ : L2.St} {H F : Hp} {ρ : En} {cl : String} {C : Addr} {n m : Nat} {ix : List Nat} {vs zs : List V} {ds es : List D} {g : List D → OutF} {Q : VK} (k : ClD c.toBase cl C) (R : Rel c.K c.mg c.xt G F H σ ρ) (r : Dns c.K c.mg F vs ds) (rz : Dns c.K c.mg F zs es)
    (q : Post (Dn c.K c.mg) c G W F σ (if ds.length = n ∧ es.length = m then (match g (pick ix ((.gl cl :: ds) ++ es)) with
      | .ok d _ => .ok d ρ
      | .err x _ => .err x ρ
      | _ => .bad) else .bad : Out D) Q) : vs.length = n ∧ zs.length = m ∧ spF c.toBase [] g (pick ix ((.ref C :: vs) ++ zs)) H Q (WE W σ) := by
  split at q
  case isFalse => exact q.elim
  rename_i h
  exact ⟨by rw [r.length]; exact h.1, by rw [rz.length]; exact h.2, post_cal R (dns_pick (Dns.append (.cons (.gl k.g) r) rz) ix) q⟩
theorem xcm {k n : Nat} {cl m : String} {ks : List Str} {ix : List Nat} {g : List D → OutF} {e : Expr} {es : List Expr} {kws : List Keyword} {f fk : M (List D)} {xp apos pos : Pos} {pl : Env → Sem Bool} (me : CmD c.toBase k cl m n ks ix g) (ha : EA c (e :: es) f) (hkw : EK c kws fk) (ok : KwOk kws ks pos := by intro _; exact ⟨rfl, rfl, rfl⟩) (hk : Nat.ble k c.k = true := by kernel_rfl)
    (hg : c.sc.names.lookup (Str.ofString cl) = some .globalImplicit := by kernel_rfl) (hdb : (Str.ofString cl == ("__debug__" : Str)) = false := by decide) (he : ∀ env, starEach (e :: es) env = (false, eval e env) :: starEach es env := by intro _; rfl) (hpl : Few (e :: es) pos := by intro _; rfl)
    (ht : ∀ env, eval (.Call (.Attribute (.Name (Str.ofString cl) xp) (Str.ofString m) apos) (e :: es) kws pos) env = (do
      let ov ← eval (.Name (Str.ofString cl) xp) env
      standAt apos.atName
      let (f, first) ← holding [ov] (getMethod ov (Str.ofString m) (pl env))
      callWith pos f first (backTo pos (starEach (e :: es) env)) (backToKw pos (keywordEach kws env))) := by intro _; rfl) (hc : c.hot = false := by first | rfl | assumption) :
    ED c (.Call (.Attribute (.Name (Str.ofString cl) xp) (Str.ofString m) apos) (e :: es) kws pos) (cmM cl g n ks.length ix f fk) := fun G X W z => by
  obtain ⟨C, mc, p, fa, fd, ps, kc, rd, cm, F, hb⟩ := me.ex
  have F' : FnG X.prog X.w X.K X.mg X.base k fa fd ps (spF c.toBase [] g) := by rw [z.P, z.w, z.K, z.mg, z.base]; exact F
  obtain ⟨o1, o2, o3⟩ := ok X.env
  refine pe_imp (pe_cmG (pl := pl X.env) (Gn.gl hg z) (by rw [z.mg]; exact kc.g) hdb (by rw [z.K]; exact rd) (by rw [z.K]; exact cm) F' ((z.cold hc).mono (Nat.le_of_ble_eq_true hk)) z.gd hb (fun σ => passAt z.tk σ) (ha G X W z) (hkw G X W z) o1 o2 (he _) (by rw [hpl, o3]; rfl) (ht _)) fun σ H Q ⟨F0, ρ, R, q⟩ => ?_
  refine tG_bind R q fun F1 H1 ρ1 vs ds s1 R1 rx q1 => ?_
  refine tG_bind R1 q1 fun F2 H2 ρ2 zs es s2 R2 rz q2 => ?_
  exact post_cm kc R2 (rx.mono s2) rz q2
theorem xcm0 {k : Nat} {cl m : String} {ks : List Str} {ix : List Nat} {g : List D → OutF} {kws : List Keyword} {fk : M (List D)} {xp apos pos : Pos} {pl : Env → Sem Bool} (me : CmD c.toBase k cl m 0 ks ix g) (hkw : EK c kws fk) (ok : KwOk kws ks pos := by intro _; exact ⟨rfl, rfl, rfl⟩) (hk : Nat.ble k c.k = true := by kernel_rfl)
    (hg : c.sc.names.lookup (Str.ofString cl) = some .globalImplicit := by kernel_rfl) (hdb : (Str.ofString cl == ("__debug__" : Str)) = false := by decide)
    (ht : ∀ env, eval (.Call (.Attribute (.Name (Str.ofString cl) xp) (Str.ofString m) apos) [] kws pos) env = (do
      let ov ← eval (.Name (Str.ofString cl) xp) env
      standAt apos.atName
      let (f, first) ← holding [ov] (getMethod ov (Str.ofString m) (pl env))
      callWith pos f first (backTo pos (starEach [] env)) (backToKw pos (keywordEach kws env))) := by intro _; rfl) (hc : c.hot = false := by first | rfl | assumption) :
    ED c (.Call (.Attribute (.Name (Str.ofString cl) xp) (Str.ofString m) apos) [] kws pos) (cmM cl g 0 ks.length ix args0 fk) := fun G X W z => by
  obtain ⟨C, mc, p, fa, fd, ps, kc, rd, cm, F, hb⟩ := me.ex
  have F' : FnG X.prog X.w X.K X.mg X.base k fa fd ps (spF c.toBase [] g) := by rw [z.P, z.w, z.K, z.mg, z.base]; exact F
  obtain ⟨o1, o2, o3⟩ := ok X.env
  refine pe_imp (pe_cmG0 (pl := pl X.env) (Gn.gl hg z) (by rw [z.mg]; exact kc.g) hdb (by rw [z.K]; exact rd) (by rw [z.K]; exact cm) F' ((z.cold hc).mono (Nat.le_of_ble_eq_true hk)) z.gd hb (fun σ => passAt z.tk σ) (hkw G X W z) o1 o2 (by rw [o3]; rfl) (ht _)) fun σ H Q ⟨F0, ρ, R, q⟩ => ?_
  refine tG_bind R (show Post (Dn c.K c.mg) c G W F0 σ (bnd fk _ ρ) Q from q) fun F2 H2 ρ2 zs es s2 R2 rz q2 => ?_
  exact post_cm (vs := []) (ds := []) (n := 0) kc R2 .nil rz q2
end
end DL

/-! text.split(sign) -/
namespace DL
open PySem L2
def splC (n : Nat) : Cs → List Cs
  | [] => [[]]
  | m :: r => if m = n then [] :: splC n r else match splC n r with
    | p :: ps => (m :: p) :: ps
    | [] => [[m]]
theorem splC_ne (n : Nat) : ∀ l : Cs, splC n l ≠ []
  | [] => by simp [splC]
  | m :: r => by
    unfold splC
    split
    · simp
    · split <;> simp
theorem spl_splC (n : Nat) : ∀ (l acc : Cs), TL.spl [n] 0 acc l = match splC n l with
    | p :: ps => (acc ++ p) :: ps
    | [] => [acc]
  | [], acc => by simp [TL.spl_nil, splC]
  | m :: r, acc => by
    unfold splC
    by_cases h : m = n
    · subst h
      have hp : TL.pre [m] (m :: r) = true := by simp [TL.pre]
      rw [TL.spl_hit hp]
      have := spl_splC m r []
      simp only [List.length_cons, List.length_nil, if_true, List.append_nil]
      have e : TL.spl [m] (0 + 1 - 1) [] r = splC m r := by
        show TL.spl [m] 0 [] r = _
        rw [this]
        have := splC_ne m r
        split
        · rename_i p ps e; rw [e]; simp
        · rename_i e; exact absurd e this
      rw [e]
    · have hp : TL.pre [n] (m :: r) = false := by simp [TL.pre, h]
      rw [TL.spl_miss hp, spl_splC n r (acc ++ [m]), if_neg h]
      have := splC_ne n r
      split
      · rename_i p ps e; simp [e]
      · rename_i e; exact absurd e this
theorem spl_eq (n : Nat) (l : Cs) : TL.spl [n] 0 [] l = splC n l := by
  rw [spl_splC]
  have := splC_ne n l
  split
  · rename_i p ps e; rw [e]; simp
  · rename_i e; exact absurd e this
theorem splC_mem {n : Nat} : ∀ {l p : Cs}, p ∈ splC n l → (∀ c ∈ p, c ∈ l) ∧ p.length ≤ l.length ∧ n ∉ p
  | [], p, h => by
    have : p = [] := by simpa [splC] using h
    subst this
    simp
  | m :: r, p, h => by
    unfold splC at h
    split at h
    · rcases List.mem_cons.mp h with e | e
      · subst e; simp
      · obtain ⟨h1, h2, h3⟩ := splC_mem e
        exact ⟨fun c hc => List.mem_cons_of_mem _ (h1 c hc), by simp; omega, h3⟩
    · rename_i hm
      split at h
      · rename_i q qs e
        rcases List.mem_cons.mp h with z | z
        · subst z
          obtain ⟨h1, h2, h3⟩ := splC_mem (n := n) (l := r) (p := q) (by rw [e]; exact List.mem_cons_self)
          refine ⟨fun c hc => ?_, by simp; omega, ?_⟩
          · rcases List.mem_cons.mp hc with y | y
            · rw [y]; exact List.mem_cons_self
            · exact List.mem_cons_of_mem _ (h1 c y)
          · intro y
            rcases List.mem_cons.mp y with y | y
            · exact hm y.symm
            · exact h3 y
        · obtain ⟨h1, h2, h3⟩ := splC_mem (n := n) (l := r) (p := p) (by rw [e]; exact List.mem_cons_of_mem _ z)
          exact ⟨fun c hc => List.mem_cons_of_mem _ (h1 c hc), by simp; omega, h3⟩
      · rename_i e
        exact absurd e (splC_ne n r)
theorem splC_len (n : Nat) : ∀ l : Cs, (splC n l).length ≤ l.length + 1
  | [] => by simp [splC]
  | m :: r => by
    have ih := splC_len n r
    unfold splC
    split
    · simpa using ih
    · split
      · rename_i p ps e; rw [e] at ih; simp at ih ⊢; omega
      · simp
def dSplit : D → List D → Option D
  | .str a, [.str [n]] => if n < 256 ∧ a.length + 2 ≤ sz then some (.lst ((splC n a).map .str)) else none
  | _, _ => none
theorem m_split {c : Stat} : MCl c "str.split" dSplit := fun X W z => ⟨_, mt_split, by
  intro F H x dx xs ds d Q s rx rxs e a
  cases rx <;> try (simp only [dSplit] at e; cases e)
  rename_i cs hcs
  cases rxs with
  | nil => simp only [dSplit] at e; cases e
  | cons h1 rxs =>
    cases rxs with
    | cons _ _ => simp only [dSplit] at e; cases e
    | nil =>
      cases h1 <;> try (simp only [dSplit] at e; cases e)
      rename_i sp hsp
      match sp, hsp, e with
      | [n], hsp, e =>
        simp only [dSplit] at e
        split at e
        case isFalse => cases e
        rename_i hz
        cases e
        obtain ⟨hn, hl⟩ := hz
        refine ⟨toS cs, toS [n], rfl, rfl, by simp [toS, Str.length], by rw [toS_length]; exact hl, fun p hp => ?_⟩
        have e1 : Txt.split (toS cs) (toS [n]) = (splC n cs).map toS := by
          have := SX.split_S (a := cs) (b := [n]) (by simp) (by simp [hn])
          rw [spl_eq] at this
          exact this
        rw [e1]
        exact after_lst s a hp (dns_strs fun q hq => ⟨Nat.le_trans (splC_mem hq).2.1 hcs.1, fun m hm => hcs.2 m ((splC_mem hq).1 m hm)⟩) (by rw [List.length_map]; have := splC_len n cs; omega)⟩
section
variable {c : Stat}
theorem xsplit {o e : Expr} {fo : M D} {f : M (List D)} {apos cpos : Pos} (ho : ED c o fo) (ha : EA c [e] f) (hbase : ∀ env, attributeBase o "split" env (eval o env) = eval o env := by intro _; rfl) (hline : (apos.endLine == cpos.line) = true := by rfl)
    (hfew : ∀ env, ((backTo cpos (starEach [e] env)).all (fun x => !x.1) && (backToKw cpos (keywordEach [] env)).all (fun x => x.1.isSome) && decide ([e].length + ([] : List Keyword).length + (if ([] : List Keyword).isEmpty then 0 else 1) < 30)) = true := by intro _; rfl) (hs : ∀ env, starEach [e] env = (false, eval e env) :: starEach [] env := by intro _; rfl) : ED c (.Call (.Attribute o "split" apos) [e] [] cpos) (opMt isStr dSplit fo f) :=
  ed_strm m_split PySem.F.slot_str_split PySem.F.type_str_split ho ha hbase hfew hline hs
/-! ### simp -/
@[simp] theorem dSplit_str (a : Cs) (n : Nat) : dSplit (.str a) [.str [n]] = if n < 256 ∧ a.length + 2 ≤ sz then some (.lst ((splC n a).map .str)) else none := nrfl rfl
@[simp] theorem at_tryM (cl : String) (mb ms : M Fl) (ρ : En) : tryM cl mb ms ρ = match mb ρ with
  | .ok fl ρ' => .ok fl ρ'
  | .err x ρ' => if x.c = cl then (match ms ρ' with
    | .ok fl ρ2 => .ok fl ρ2
    | _ => .bad) else .bad
  | .bad => .bad := nrfl rfl
@[simp] theorem at_cmM (cl : String) (g : List D → OutF) (n m : Nat) (ix : List Nat) (a kw : M (List D)) (ρ : En) : cmM cl g n m ix a kw ρ = (a ρ).b fun ds ρ1 => (kw ρ1).b fun es ρ2 => if ds.length = n ∧ es.length = m then (rF (g (pick ix ((.gl cl :: ds) ++ es)))).k ρ2 fun d => .ok d ρ2 else .bad := by
  unfold cmM; rw [at_bnd]; congr 1; funext x ρ1; rw [at_bnd]; congr 1; funext y ρ2
  split
  · cases g (pick ix ((.gl cl :: x) ++ y)) <;> rfl
  · rfl
instance (cl : String) (g : List D → OutF) (n m : Nat) (ix : List Nat) (a kw : M (List D)) [h : Pu a] [k : Pu kw] : Pu (cmM cl g n m ix a kw) := ⟨fun ρ => by rw [at_cmM]; exact pu_b (h.pu ρ) fun x => pu_b (k.pu ρ) fun es => pu_if (pu_k fun d => pu_ok _ ρ) (pu_bad ρ)⟩
theorem xtry {cl : String} {body suite : List Stmt} {b0 : Stmt} {np pos pos' : Pos} {mb ms : M Fl} (T : CatO c.toBase cl) (hb : ESs c body mb) (hs : ESs (stH c) (b0 :: suite) ms) (hg : c.sc.names.lookup (Str.ofString cl) = some .globalImplicit := by kernel_rfl) (hdb : (Str.ofString cl == ("__debug__" : Str)) = false := by decide)
    (hc : c.hot = false := by first | rfl | assumption) (hf : c.fr = true := by first | rfl | assumption) : ES c (.Try body [.ExceptHandler (some (.Name (Str.ofString cl) np)) none (b0 :: suite) pos'] [] [] pos) (tryM cl mb ms) := es_tryO T hg hb hs hdb hc hf
end
section
variable {P : Program} {w : World} {K : PySem.W.Frag} {mg : Str → Option Value} {base : Heap} {Ts : List (Addr × Str)}
end
end DL

/-! methods without arguments; a list comprehension that is the frame's own -/
namespace DL
open PySem L2 PyProof.Rows
def tMethX0 (C : Addr) (m : Str) (sp : Sp) (E : L2.St → XK) (ta : TE) : TE := fun σ H Q => ta σ H fun x H1 => ∃ a dx fs, x = .ref a ∧ H1 a = some (.ins C dx fs) ∧ fs.lookup m = none ∧ sp [x] H1 Q (E σ)
theorem pe_methX0 {X : Cx} {k : Nat} {C f : Addr} {fd : FuncData} {ps : List Str} {sp : Sp} {E : L2.St → XK} {m : Str} {pos apos : Pos} {o : Expr} {ta : TE} {pl : Sem Bool} (he : PE X o ta) (c : Cls X.K C) (hm : Meth X.K C m f) (F : FnG X.prog X.w X.K X.mg X.base k f fd ps sp) (hr : Room k X.A) (hgd : X.A.guards = some []) (hb : Binds X.K fd ps []) (hx : ∀ σ, PassesAt (L2.CX X.prog X.w) X σ (E σ))
    (ht : eval (.Call (.Attribute o m apos) [] [] pos) X.env = (do
      let ov ← eval o X.env
      standAt apos.atName
      let (f, first) ← holding [ov] (getMethod ov m pl)
      callWith pos f first (backTo pos (starEach [] X.env)) (backToKw pos (keywordEach [] X.env))) := by rfl) :
    PE X (.Call (.Attribute o m apos) [] [] pos) (tMethX0 C m sp E ta) := by
  refine ⟨fun pins s σ H Q I h => ?_⟩
  refine PySem.W.methodCall_KW (pl := pl) (thn (he.run pins s σ H _ I h) fun u s1 ⟨x, H1, I1, rx, a, dx, fs, ex, ea, l, q⟩ => ?_) ht
  subst ex
  obtain rfl : u = Value.ref a := rx
  refine getmeth_ok I1 ea c hm l ?_
  exact PySem.W.callWith_K0 (first := [.ref a]) I1.kIn hm.kp (run_fnG (us := [.ref a]) (vs := [.ref a]) F hr hgd hb (hx σ) I1 (.cons rfl .nil) q)
section
variable {c : Stat}
def metM0 (cl m : String) (g : List D → OutF) (o : M D) : M D := bnd o fun x ρ => if okIns cl m x then (match g [x] with
  | .ok d _ => .ok d ρ
  | .err x _ => .err x ρ
  | _ => .bad) else .bad
theorem xmet0 {k : Nat} {cl m : String} {g : List D → OutF} {o : Expr} {fo : M D} {apos pos : Pos} {pl : Env → Sem Bool} (me : MetD c.toBase k cl m [] g) (ho : ED c o fo) (hk : Nat.ble k c.k = true := by kernel_rfl)
    (ht : ∀ env, eval (.Call (.Attribute o (Str.ofString m) apos) [] [] pos) env = (do
      let ov ← eval o env
      standAt apos.atName
      let (f, first) ← holding [ov] (getMethod ov (Str.ofString m) (pl env))
      callWith pos f first (backTo pos (starEach [] env)) (backToKw pos (keywordEach [] env))) := by intro _; rfl) (hc : c.hot = false := by first | rfl | assumption) :
    ED c (.Call (.Attribute o (Str.ofString m) apos) [] [] pos) (metM0 cl m g fo) := fun G X W z => by
  obtain ⟨C, fa, fd, ps, kc, mt, F, hb⟩ := me.ex
  have F' : FnG X.prog X.w X.K X.mg X.base k fa fd ps (spF c.toBase [] g) := by rw [z.P, z.w, z.K, z.mg, z.base]; exact F
  refine pe_imp (pe_methX0 (pl := pl X.env) (ho G X W z) (by rw [z.K]; exact kc.c) (by rw [z.K]; exact mt) F' ((z.cold hc).mono (Nat.le_of_ble_eq_true hk)) z.gd (by rw [z.K]; exact hb) (fun σ => passAt z.tk σ) (ht _)) fun σ H Q ⟨F0, ρ, R, q⟩ => ?_
  refine tG_bind R q fun F1 H1 ρ1 x dx s1 R1 rx q1 => ?_
  split at q1
  case isFalse => exact q1.elim
  rename_i hc
  obtain ⟨a, C', dx', vs', fs', rfl, rfl, g1, h1, r1, hn⟩ := okIns_of hc rx
  have := kc.same g1
  subst this
  exact ⟨_, _, _, rfl, R1.fh _ _ h1, hn, post_cal R1 (.cons rx .nil) q1⟩
theorem xev_lc (own : List (Str × Nat)) {elt tg iter : Expr} {ifs : List Expr} {scope : Scope} {sl : List Nat} {pos : Pos} {src : M (List D)} {t : Tg} {mt : M Bool} {me : M D} (hi : EI c tg iter src) (hg : EG (c.blk scope) tg sl t) (ht : ETs (c.blk scope) ifs mt) (he : ED (c.blk scope) elt me)
    (ok : blkC c.N c.sc scope own = true := by kernel_rfl) (hsl : (sl.all fun i => (own.map (·.2)).contains i) = true := by rfl) (hs : ∀ env x, foldedSetIterable iter env x = pure x := by intro _ _; rfl) (hc : c.hot = false := by first | rfl | assumption) : EV c (.ListComp elt [⟨tg, iter, ifs, 0⟩] scope pos) (lcV src (own.map (·.2)) t mt me) := fun G X W z => by
  obtain ⟨g, pg, kg⟩ := hg
  have hsl' : ∀ i ∈ sl, i ∈ own.map (·.2) := fun i h => List.contains_iff_mem.mp (List.all_eq_true.mp hsl i h)
  exact pe_imp (pe_lc (own := own) (z.calm hc) (by rw [z.N]; exact z.nd) (hi G X W z) (by rw [z.N, z.sc]; exact blkOk_by ok) (fun s H C cl fp => pg _ _ (cz_blk z hc s H scope cl C fp)) (fun s H C cl fp => lcT z hc ht s H C cl fp) (fun s H C cl fp => lcE z hc he s H C cl fp) (hs _)) fun σ H Q h => lcV_imp (c := c) (scope := scope) hsl' kg h
@[simp] theorem at_metM0 (cl m : String) (g : List D → OutF) (o : M D) (ρ : En) : metM0 cl m g o ρ = (o ρ).b fun x ρ1 => if okIns cl m x = true then (rF (g [x])).k ρ1 fun d => .ok d ρ1 else .bad := by
  unfold metM0; rw [at_bnd]; congr 1; funext x ρ1
  split
  · cases g [x] <;> rfl
  · rfl
instance (cl m : String) (g : List D → OutF) (o : M D) [h : Pu o] : Pu (metM0 cl m g o) := ⟨fun ρ => by rw [at_metM0]; exact pu_b (h.pu ρ) fun x => pu_if (pu_k fun d => pu_ok _ ρ) (pu_bad ρ)⟩
end
end DL

/-! tuples of two numbers that stand at the top -/
namespace DL
open L2 PySem PySem.Spec PyProof.Rows
section
variable {c : Stat}
def KTup2 (b : Base) (x : Str) (i j : Int) : Prop := ∃ a, b.mg x = some (.ref a) ∧ ∃ (o : Obj) (its : Array Value) (n : Nat), b.K.lookup a = some o ∧ o.cls = .type "tuple" ∧ o.data = .seq its n ∧ its.size ≤ sizeLine ∧ Vals [V.int i, V.int j] its.toList
theorem xgt2 {x : Str} {i j : Int} {pos : Pos} (hm : KTup2 c.toBase x i j) (hg : c.sc.names.lookup x = some .globalImplicit := by kernel_rfl) (hd : (x == ("__debug__" : Str)) = false := by kernel_rfl) : ED c (.Name x pos) (cn (.tup [.int i, .int j])) := by
  obtain ⟨a, h, k⟩ := hm
  exact ed_glob (v := .ref a) hg h rfl (fun F => .tup (vs := [V.int i, V.int j]) (.inr k) (.cons (.int i) (.cons (.int j) .nil)) (by rw [sz_val]; show 2 ≤ _; decide)) hd
def dListRg : D → Option D
  | .int n => if 0 ≤ n ∧ n ≤ 1000 then some (.lst ((List.range n.toNat).map fun i : Nat => .int (i : Int))) else none
  | _ => none
theorem xlistRg {p p2 q pos : Pos} {e : Expr} {f : M D} (hm : c.mg "list" = none) (hm2 : c.mg "range" = none) (he : ED c e f) (hg : c.sc.names.lookup ("list" : Str) = some .globalImplicit := by kernel_rfl) (hg2 : c.sc.names.lookup ("range" : Str) = some .globalImplicit := by kernel_rfl)
    (hst : ∀ env, starEach [e] env = (false, eval e env) :: starEach [] env := by intro _; rfl) (hst2 : ∀ env, starEach [.Call (.Name "range" p2) [e] [] q] env = (false, eval (.Call (.Name "range" p2) [e] [] q) env) :: starEach [] env := by intro _; rfl) (hc : c.hot = false := by first | rfl | assumption) :
    ED c (.Call (.Name "list" p) [.Call (.Name "range" p2) [e] [] q] [] pos) (op1 dListRg f) :=
  ed_op1 he fun X W z => by
    refine ⟨fun x H Q => ∃ n, x = .int n ∧ (RgOk 0 n ∧ ∀ q, H q = none → Q (.ref q) (upd H q (.lst (rgV 0 n)))), ?_, fun ta h => ?_⟩
    · intro F H x dx d Q s h e a
      cases h <;> simp only [dListRg] at e <;> try cases e
      rename_i n
      split at e
      case isFalse => cases e
      rename_i hn
      cases e
      refine ⟨n, rfl, RgOk.of_le (by omega) (by omega) (by omega) (by omega), fun q hq => ?_⟩
      have e1 : rgV 0 n = ((List.range n.toNat).map fun i : Nat => (i : Int)).map V.int := by
        unfold rgV
        rw [List.map_map, Int.sub_zero]
        exact List.map_congr_left fun i _ => by rw [Int.zero_add]; rfl
      have e2 : ((List.range n.toNat).map fun i : Nat => D.int (i : Int)) = ((List.range n.toNat).map fun i : Nat => (i : Int)).map D.int := by rw [List.map_map]; rfl
      rw [e1]
      rw [e2] at a
      exact after_lst s a hq (dns_ints _) (by rw [List.length_map, List.length_map, List.length_range, sz_val]; omega)
    · exact pe_listRg (z.calm hc) (Gn.gl (c := c) hg z) (by rw [z.mg]; exact hm) (prg_1 (Gn.gl (c := c) hg2 z) (by rw [z.mg]; exact hm2) h (hst _)) (hst2 _)
@[simp] theorem listRg_nat {n : Nat} (h : n ≤ 1000) : dListRg (.int (n : Int)) = some (.lst ((List.range n).map fun i : Nat => D.int (i : Int))) := by
  rw [dListRg, if_pos (by omega)]
  rfl
end
end DL

namespace DL
open PySem PySem.Spec PySem.Calls PyProof.Rows L2
/-! ### zip of two things of any kind (list, tuple, text), walked by a loop or a comprehension -/
inductive Zk where
  | l (a : Addr) | t (a : Addr) | s (z : Str) (u : Tok)
def Zk.val : Zk → Value
  | .l a => .ref a
  | .t a => .ref a
  | .s z u => .str z u
def Zk.sti : Zk → Addr → Nat → Heap → Prop
  | .l a => fun it i h => h.IsListIter it a i
  | .t a => fun it i h => h.IsTupleIter it a i
  | .s z u => fun it i h => h.IsStrIter it (strIterType z) z u i
def Zk.src : Zk → List Addr
  | .l a => [a]
  | .t a => [a]
  | .s _ _ => []
def Zk.ob : Zk → Obj
  | .l a => { cls := .type "list_iterator", data := .fields #[.ref a, .int 0 0] }
  | .t a => { cls := .type "tuple_iterator", data := .fields #[.ref a, .int 0 0] }
  | .s z u => { cls := .type (strIterType z), data := .fields #[.str z u, .int 0 0] }
def Zk.say (K : PySem.W.Frag) (H : Hp) (xs : List V) : Zk → Prop
  | .l a => SqL K H a xs
  | .t a => SqT K H a xs
  | .s z _ => xs = z.cps.toList.map fun n => V.str ⟨#[n]⟩
theorem Zk.start (k : Zk) {it : Addr} {h : Heap} (e : h.get? it = some k.ob) : k.sti it 0 h := by
  cases k with
  | l a => exact ⟨_, e, rfl, rfl⟩
  | t a => exact ⟨_, e, rfl, rfl⟩
  | s z u => exact ⟨_, e, rfl, rfl⟩
theorem Zk.obj (k : Zk) {it : Addr} {i : Nat} {h : Heap} (e : k.sti it i h) : ∃ o, h.get? it = some o ∧ ∀ v, o.data ≠ .cell v := by
  cases k with
  | l a => obtain ⟨o, e, _, d⟩ := e; exact ⟨o, e, fun v q => by rw [d] at q; cases q⟩
  | t a => obtain ⟨o, e, _, d⟩ := e; exact ⟨o, e, fun v q => by rw [d] at q; cases q⟩
  | s z u => obtain ⟨o, e, _, d⟩ := e; exact ⟨o, e, fun v q => by rw [d] at q; cases q⟩
theorem Zk.keep (k : Zk) {it : Addr} {i : Nat} {h h' : Heap} (e : k.sti it i h) (q : ∀ o, h.get? it = some o → h'.get? it = some o) : k.sti it i h' := by
  cases k with
  | l a => exact Heap.IsListIter.at e q
  | t a => exact Heap.IsTupleIter.at e q
  | s z u => obtain ⟨o, e, c, d⟩ := e; exact ⟨o, q o e, c, d⟩
theorem vals_atZ : ∀ {xs : List V} {us : List Value}, Vals xs us → ∀ {j : Nat} {u : Value}, us[j]? = some u → ∃ x, xs[j]? = some x ∧ RelV x u
  | _, _, .nil, _, _, h => by cases h
  | _, _, .cons r _, 0, _, h => by cases h; exact ⟨_, rfl, r⟩
  | _, _, .cons _ t, j + 1, _, h => vals_atZ t (by simpa using h)
/-- what such an iterator draws, where the thing stands -/
structure Zd (prog : Program) (w : World) (k : Zk) (xs : List V) (h : Heap) (Hh : Heap → Prop) (P : Nat → Value → Prop) : Prop where
  here : Hh h
  kp : ∀ h h', Hh h → (∀ b ∈ k.src, ∀ o, h.get? b = some o → h'.get? b = some o) → Hh h'
  dr : ∀ (A : Around) (it : Addr), A.handled = none → it ∉ k.src → Draws prog w A it (it :: k.src) xs.length P (fun i h => k.sti it i h ∧ Hh h)
  yes : ∀ i v, P i v → ∃ x, xs[i]? = some x ∧ RelV x v
  beg : Begins k.val k.ob Hh
  low : ∀ b ∈ k.src, b < h.objs.size
theorem zk_draw {X : Cx} {pins : List (Addr × Obj)} {σ : L2.St} {H : Hp} {s : Shared} (k : Zk) {xs : List V} (I : Inv X pins σ H s) (h : k.say X.K H xs) : ∃ Hh P, Zd X.prog X.w k xs s.heap Hh P := by
  cases k with
  | l a =>
    obtain ⟨its, rv, p, z⟩ := I.list h
    refine ⟨fun g => g.IsList a its.toArray, fun i v => its.toArray[i]? = some v, ⟨p.isList, fun g g' q kk => q.at fun o e => kk a (by simp [Zk.src]) o e, fun A it hh ne => ?_, fun i v e => ?_, begins_list a _, fun b hb => ?_⟩⟩
    · have := Draws.list (prog := X.prog) (w := X.w) hh it a (fun e => ne (by simp [Zk.src, e])) its.toArray
      rw [show xs.length = its.toArray.size by simp [rv.length]]
      exact this
    · obtain ⟨x, h1, h2⟩ := vals_atZ rv (by simpa using e)
      exact ⟨x, h1, h2⟩
    · have e : b = a := by simpa [Zk.src] using hb
      subst e
      exact p.lt
  | t a =>
    obtain ⟨its, rv, p, z⟩ := I.tuple h
    refine ⟨fun g => g.IsTuple a its.toArray, fun i v => its.toArray[i]? = some v, ⟨p, fun g g' q kk => q.at fun o e => kk a (by simp [Zk.src]) o e, fun A it hh ne => ?_, fun i v e => ?_, begins_tuple a _, fun b hb => ?_⟩⟩
    · have := Draws.tuple (prog := X.prog) (w := X.w) hh it a (fun e => ne (by simp [Zk.src, e])) its.toArray
      rw [show xs.length = its.toArray.size by simp [rv.length]]
      exact this
    · obtain ⟨x, h1, h2⟩ := vals_atZ rv (by simpa using e)
      exact ⟨x, h1, h2⟩
    · have e : b = a := by simpa [Zk.src] using hb
      subst e
      obtain ⟨o, ho, _⟩ := p
      exact Heap.lt_size ho
  | s z u =>
    have hx : xs = z.cps.toList.map fun n => V.str ⟨#[n]⟩ := h
    subst hx
    refine ⟨fun _ => True, fun i v => ∃ n t, z.cps[i]? = some n ∧ v = .str ⟨#[n]⟩ t, ⟨trivial, fun _ _ _ _ => trivial, fun A it hh ne => ?_, fun i v e => ?_, begins_text z u, fun b hb => by simp [Zk.src] at hb⟩⟩
    · have D := Draws.text (prog := X.prog) (w := X.w) hh it z u
      have hl : (z.cps.toList.map fun n => V.str ⟨#[n]⟩).length = z.cps.size := by simp
      rw [hl]
      refine ⟨fun i h st => D.live i h st.1, fun i h h' st kk => ⟨D.frame i h h' st.1 kk, trivial⟩, fun i s Q E hi st hQ => D.item i s Q E hi st.1 fun x h' tk p st' sb => hQ x h' tk p ⟨st', trivial⟩ sb, fun s Q E st hE => D.done s Q E st.1 hE⟩
    · obtain ⟨n, t, e1, rfl⟩ := e
      refine ⟨.str ⟨#[n]⟩, ?_, ⟨t, rfl⟩⟩
      rw [List.getElem?_map, Array.getElem?_toList, e1]
      rfl

def ItZ (S1 S2 : Hp → Prop) (xs ys : List V) : It :=
  ⟨fun i H => S1 H ∧ S2 H ∧ i < min xs.length ys.length,
    fun i H v H' => ∃ T x y, v = .ref T ∧ H T = none ∧ H' = upd H T (.tup [x, y]) ∧ xs[i]? = some x ∧ ys[i]? = some y,
    fun i H => S1 H ∧ S2 H ∧ min xs.length ys.length ≤ i⟩
/-- the state of a zip ahead of turn i -/
def Ztn (k1 k2 : Zk) (n : Nat) (z TI TO i1 i2 : Addr) (i : Nat) (h : Heap) : Prop :=
  i ≤ n ∧ IsZip h z TI TO .none ∧ IsTupOf2 h TI (.ref i1) (.ref i2) ∧ (∃ a b, IsTupOf2 h TO a b) ∧ k1.sti i1 i h ∧ k2.sti i2 i h
theorem turn_zipZ {P : Program} {w : World} {K : PySem.W.Frag} {elts : List Expr} {kk N : Nat} {tpos : Pos} {k1 k2 : Zk} {xs ys : List V} (b1 : ∀ b ∈ k1.src, b < N) (b2 : ∀ b ∈ k2.src, b < N) :
    Turn P w K (.Tuple elts kk tpos) (ItZ (fun H => k1.say K H xs) (fun H => k2.say K H ys) xs ys) [N + 4, N + 2, N + 3, N, N + 1] (N + 4) (Ztn k1 k2 (min xs.length ys.length) (N + 4) (N + 2) (N + 3) N (N + 1)) where
  mem := by simp
  obj := fun i h st c hc => by
    obtain ⟨_, hz, hI, ⟨a, b, hO⟩, h1, h2⟩ := st
    have e : c = N + 4 ∨ c = N + 2 ∨ c = N + 3 ∨ c = N ∨ c = N + 1 := by simpa using hc
    rcases e with q | q | q | q | q <;> rw [q]
    · exact ⟨_, hz, fun v q => nomatch q⟩
    · exact ⟨_, hI, fun v q => nomatch q⟩
    · exact ⟨_, hO, fun v q => nomatch q⟩
    · exact k1.obj h1
    · exact k2.obj h2
  keep := fun i h h' st q => by
    obtain ⟨l, hz, hI, ⟨a, b, hO⟩, h1, h2⟩ := st
    exact ⟨l, q _ (by simp) _ hz, q _ (by simp) _ hI, ⟨a, b, q _ (by simp) _ hO⟩, k1.keep h1 (q _ (by simp)), k2.keep h2 (q _ (by simp))⟩
  item := by
    intro X hP hw hK hc i pins s σ H E I hf st hg
    subst hP hw hK
    obtain ⟨l, hz, hI, hO, h1, h2⟩ := st
    obtain ⟨s1, s2, hi⟩ := hg
    obtain ⟨A1, P1, Z1⟩ := zk_draw k1 I s1
    obtain ⟨A2, P2, Z2⟩ := zk_draw k2 I s2
    have hh : X.A.in1.handled = none := I.ok.hd hc
    have n1 : N ∉ k1.src := fun m => Nat.lt_irrefl _ (b1 _ m)
    have n2 : N + 1 ∉ k2.src := fun m => Nat.lt_irrefl _ (Nat.lt_trans (Nat.lt_succ_self _) (b2 _ m))
    have W := GoesN.zip2 (elts := elts) (x1 := kk) (pos := tpos) (zip_sep2 b1 b2) (Z1.dr X.A.in1 N hh n1) (Z2.dr X.A.in1 (N + 1) hh n2)
    refine wpAny_mono (W.goes i s (fun v s' => ∃ T x y x' y', v = .ref T ∧ H T = none ∧ xs[i]? = some x' ∧ ys[i]? = some y' ∧ Inv X pins σ (upd H T (.tup [x', y'])) s' ∧ Ztn k1 k2 (min xs.length ys.length) (N + 4) (N + 2) (N + 3) N (N + 1) (i + 1) s'.heap ∧ RelV (.ref T) v ∧ s.heap.objs.size ≤ T ∧ RelV x' x ∧ RelV y' y) E hi ⟨hz, hI, hO, ⟨h1, Z1.here⟩, ⟨h2, Z2.here⟩⟩ ?_) (fun r s' q => ?_) fun _ _ q => q
    · rintro v h' tk ⟨T, x, y, rfl, hT, q1, q2, hP⟩ ⟨g1, g2, g3, g4, g5⟩ kp _
      obtain ⟨x', e1, r1⟩ := Z1.yes i x q1
      obtain ⟨y', e2, r2⟩ := Z2.yes i y q2
      have hn : H T = none := I.hok.fresh hT
      refine ⟨T, x, y, x', y', rfl, hn, e1, e2, ?_, ⟨hi, g1, g2, g3, g4.1, g5.1⟩, rfl, hT, r1, r2⟩
      refine I.turnedNew (t' := tk) (ch := [N + 4, N + 3, N, N + 1]) kp (fun b hb => hf b ?_) hT ⟨by show 2 ≤ sizeLine; decide, [x, y], .cons r1 (.cons r2 .nil), hP⟩
      have e : b = N + 4 ∨ b = N + 3 ∨ b = N ∨ b = N + 1 := by simpa using hb
      rcases e with q | q | q | q <;> rw [q] <;> simp
    · obtain ⟨v, rfl, q⟩ := q
      refine ⟨v, rfl, wpAny_mono q (fun _ s2 q => ?_) fun _ _ q => q⟩
      obtain ⟨T, x, y, x', y', rfl, hn, e1, e2, J, Z, r, hT, _, _⟩ := q
      refine ⟨.ref T, _, J, r, ⟨T, x', y', rfl, hn, rfl, e1, e2⟩, Z, fun b hb => ?_⟩
      obtain ⟨o, ho, _⟩ : ∃ o, s.heap.get? b = some o ∧ True := by
        have e : b = N + 4 ∨ b = N + 2 ∨ b = N + 3 ∨ b = N ∨ b = N + 1 := by simpa using hb
        obtain ⟨a, c, hO⟩ := hO
        rcases e with q | q | q | q | q <;> rw [q]
        · exact ⟨_, hz, trivial⟩
        · exact ⟨_, hI, trivial⟩
        · exact ⟨_, hO, trivial⟩
        · obtain ⟨o, ho, _⟩ := k1.obj h1; exact ⟨o, ho, trivial⟩
        · obtain ⟨o, ho, _⟩ := k2.obj h2; exact ⟨o, ho, trivial⟩
      rw [upd_ne (Nat.ne_of_lt (Nat.lt_of_lt_of_le (Heap.lt_size ho) hT))]
      exact (hf b hb).1
  done := by
    intro X hP hw hK hc i pins s σ H E I hf st hg
    subst hP hw hK
    obtain ⟨l, hz, hI, hO, h1, h2⟩ := st
    obtain ⟨s1, s2, hi⟩ := hg
    have e : i = min xs.length ys.length := Nat.le_antisymm l hi
    subst e
    obtain ⟨A1, P1, Z1⟩ := zk_draw k1 I s1
    obtain ⟨A2, P2, Z2⟩ := zk_draw k2 I s2
    have hh : X.A.in1.handled = none := I.ok.hd hc
    have n1 : N ∉ k1.src := fun m => Nat.lt_irrefl _ (b1 _ m)
    have n2 : N + 1 ∉ k2.src := fun m => Nat.lt_irrefl _ (Nat.lt_trans (Nat.lt_succ_self _) (b2 _ m))
    have W := GoesN.zip2 (elts := elts) (x1 := kk) (pos := tpos) (zip_sep2 b1 b2) (Z1.dr X.A.in1 N hh n1) (Z2.dr X.A.in1 (N + 1) hh n2)
    refine W.stops s (Inv X pins σ H) E ⟨hz, hI, hO, ⟨h1, Z1.here⟩, ⟨h2, Z2.here⟩⟩ fun h' tk kp _ => ?_
    refine I.turnedL (t' := tk) (ch := [N + 4, N + 2, N + 3, N, N + 1]) (fun b o hb q => kp b o (fun m => hb ?_) q) hf
    have e : b = N + 4 ∨ b = N + 3 ∨ b = N ∨ b = N + 1 := by simpa using m
    rcases e with q | q | q | q <;> rw [q] <;> simp
  self := fun A i s Q E st h => wpAny_pyIter_zip st.2.1 h
def Zq (K : PySem.W.Frag) (H : Hp) (x : V) (xs : List V) (S : Hp → Prop) : Prop :=
  (∃ a, x = .ref a ∧ SqL K H a xs ∧ S = fun H => SqL K H a xs) ∨ (∃ a, x = .ref a ∧ SqT K H a xs ∧ S = fun H => SqT K H a xs) ∨ ∃ z : Str, x = .str z ∧ xs = (z.cps.toList.map fun n => V.str ⟨#[n]⟩) ∧ S = fun _ => xs = z.cps.toList.map fun n => V.str ⟨#[n]⟩
theorem Zq.kind {K : PySem.W.Frag} {H : Hp} {x : V} {xs : List V} {S : Hp → Prop} {u : Value} (q : Zq K H x xs S) (r : RelV x u) : ∃ k : Zk, k.val = u ∧ k.say K H xs ∧ S = fun H => k.say K H xs := by
  rcases q with ⟨a, rfl, q, e⟩ | ⟨a, rfl, q, e⟩ | ⟨z, rfl, q, e⟩
  · cases r; exact ⟨.l a, rfl, q, e⟩
  · cases r; exact ⟨.t a, rfl, q, e⟩
  · obtain ⟨t, rfl⟩ := r; exact ⟨.s z t, rfl, q, e⟩
def iZipZ (K : PySem.W.Frag) (ta : TA) : TI := fun σ H R => ta σ H fun vs H1 => ∃ xs ys x y S1 S2, vs = [x, y] ∧ Zq K H1 x xs S1 ∧ Zq K H1 y ys S2 ∧ R (ItZ S1 S2 xs ys) H1
theorem pi_zipZ {X : Cx} {e e2 : Expr} {ta : TA} {p pos tpos : Pos} {elts : List Expr} {kk : Nat} (hg : Gl X "zip") (hm : X.mg "zip" = none) (ha : PA X [e, e2] ta)
    (hs : starEach [e, e2] X.env = (false, eval e X.env) :: starEach [e2] X.env := by rfl) (hpl : (backTo pos (starEach [e2] X.env)).any (·.1) = false := by rfl) :
    PI X (.Tuple elts kk tpos) (.Call (.Name "zip" p) [e, e2] [] pos) (iZipZ X.K ta) := by
  refine ⟨fun pins s σ H R I h => ?_⟩
  refine Call_ (ld_blt I hg hm boot_zip (callWith_type1 (thn (ha.run pos pins s σ H _ I h) fun us s1 ⟨vs, H1, I1, r1, q1⟩ => ?_) hs hpl))
  obtain ⟨xs, ys, x, y, S1, S2, ex, a1, a2, q⟩ := q1
  subst ex
  cases r1 with
  | cons r rr =>
    cases rr with
    | cons r' rr =>
      cases rr
      obtain ⟨k1, rfl, b1, rfl⟩ := a1.kind r
      obtain ⟨k2, rfl, b2, rfl⟩ := a2.kind r'
      obtain ⟨A1, P1, Z1⟩ := zk_draw k1 I1 b1
      obtain ⟨A2, P2, Z2⟩ := zk_draw k2 I1 b2
      refine zip_begins2 Z1.beg Z2.beg Z1.here Z2.here fun h' hz hTI hTO h1 h2 hsz hk => wpAny_pyIter_zip hz ?_
      have I2 : Inv X pins σ H1 { s1 with heap := h' } := I1.kept (t' := s1.toks) hk
      refine ⟨s1.heap.objs.size + 4, [s1.heap.objs.size + 4, s1.heap.objs.size + 2, s1.heap.objs.size + 3, s1.heap.objs.size, s1.heap.objs.size + 1], _, _, H1, rfl, I2, turn_zipZ (k1 := k1) (k2 := k2) Z1.low Z2.low, ⟨Nat.zero_le _, hz, hTI, ⟨_, _, hTO⟩, k1.start h1, k2.start h2⟩, fun c hcm => ?_, q⟩
      have hle : s1.heap.objs.size ≤ c := by
        have e' : c = s1.heap.objs.size + 4 ∨ c = s1.heap.objs.size + 2 ∨ c = s1.heap.objs.size + 3 ∨ c = s1.heap.objs.size ∨ c = s1.heap.objs.size + 1 := by simpa using hcm
        rcases e' with z | z | z | z | z <;> rw [z] <;> first | exact Nat.le_refl _ | exact Nat.le_add_right _ _
      exact I1.fpOk hle (I1.hok.fresh hle)
section
variable {c : Stat}
def dZipS : List D → Option (List D)
  | [x, y] => (dSeq x).bind fun xs => (dSeq y).bind fun ys => some ((xs.zip ys).map fun p => .tup [p.1, p.2])
  | _ => none
/-- what is walked stands, and denotes -/
structure Zw (c : Stat) (F H : Hp) (x : V) (xs : List V) (ds : List D) (S : Hp → Prop) : Prop where
  q : Zq c.K H x xs S
  st : ∀ F1 H1, Same F F1 → Same F1 H1 → S H1
  dn : Dns c.K c.mg F xs ds
  lz : ds.length ≤ sz
theorem zw_of {F H : Hp} {x : V} {d : D} {ds : List D} (fh : Same F H) (r : Dn c.K c.mg F x d) (e : dSeq d = some ds) : ∃ xs S, Zw c F H x xs ds S := by
  cases r <;> simp only [dSeq] at e <;> try cases e
  · rename_i cs h
    refine ⟨(toS cs).cps.toList.map fun n => V.str ⟨#[n]⟩, _, .inr (.inr ⟨_, rfl, rfl, rfl⟩), fun _ _ _ _ => rfl, ?_, by rw [List.length_map]; exact h.1⟩
    have e : (toS cs).cps.toList = cs := by simp [toS]
    rw [e]
    have key : ∀ l : List Nat, (∀ n ∈ l, n < 0x110000) → Dns c.K c.mg F (l.map fun n => V.str ⟨#[n]⟩) (l.map fun n => .str [n]) := fun l => by
      induction l with
      | nil => intro _; exact .nil
      | cons n l ih => intro hn; exact .cons (.str [n] (okS_one (hn n List.mem_cons_self))) (ih fun m hm => hn m (List.mem_cons_of_mem _ hm))
    exact key cs h.2
  · rename_i a vs h r l
    exact ⟨vs, _, .inr (.inl ⟨a, rfl, same_t fh h, rfl⟩), fun F1 H1 s1 s2 => same_t (s1.trans s2) h, r, l⟩
  · rename_i a vs h r l
    exact ⟨vs, _, .inl ⟨a, rfl, .inl (same_rd fh h), rfl⟩, fun F1 H1 s1 s2 => .inl (same_rd (s1.trans s2) h), r, l⟩
theorem walks_zip {F H : Hp} {x y : V} {xs ys : List V} {ds es : List D} {S1 S2 : Hp → Prop} (a : Zw c F H x xs ds S1) (b : Zw c F H y ys es S2) : Walks c F (ItZ S1 S2 xs ys) ((ds.zip es).map fun p => .tup [p.1, p.2]) := by
  intro i F1 H1 s1 s2
  have l1 := a.dn.length
  have l2 := b.dn.length
  have hl : ((ds.zip es).map fun p : D × D => D.tup [p.1, p.2]).length = min xs.length ys.length := by rw [List.length_map, List.length_zip, l1, l2]
  refine ⟨fun d hd => ?_, fun h => ⟨a.st F1 H1 s1 s2, b.st F1 H1 s1 s2, by rw [hl] at h; exact h⟩, by rw [hl, l1]; exact Nat.le_trans (Nat.min_le_left _ _) a.lz⟩
  have hi : i < min xs.length ys.length := by rw [← hl]; exact (List.getElem?_eq_some_iff.mp hd).1
  refine ⟨⟨a.st F1 H1 s1 s2, b.st F1 H1 s1 s2, hi⟩, fun v H2 q => ?_⟩
  obtain ⟨T, x, y, rfl, hT, rfl, e1, e2⟩ := q
  obtain ⟨dx, f1, r1⟩ := a.dn.getV e1
  obtain ⟨dy, f2, r2⟩ := b.dn.getV e2
  have ed : d = .tup [dx, dy] := by
    rw [List.getElem?_map, List.getElem?_zip_eq_some (z := (dx, dy)) |>.mpr ⟨f1, f2⟩] at hd
    cases hd; rfl
  subst ed
  have fT : F1 T = none := s2.free hT
  have sF : Same F1 (upd F1 T (.tup [x, y])) := fun b o qb => by
    rw [upd_ne (fun e => by rw [e, fT] at qb; cases qb)]; exact qb
  refine ⟨upd F1 T (.tup [x, y]), ⟨sF, fun b o qb => ?_, fun b o qb => ?_, fun b hb => ?_⟩, .tup (.inl (.inl upd_same)) (.cons ((r1.mono s1).mono sF) (.cons ((r2.mono s1).mono sF) .nil)) (by simp [sz])⟩
  · by_cases e : b = T
    · subst e; rw [upd_same] at qb ⊢; exact qb
    · rw [upd_ne e] at qb ⊢; exact s2 b o qb
  · rw [upd_ne (fun e => by rw [e, hT] at qb; cases qb)]; exact qb
  · exact upd_ne fun e => hb (by rw [e]; exact hT)
theorem ei_zip {e e2 : Expr} {f : M (List D)} {p pos tpos : Pos} {elts : List Expr} {kk : Nat} (hm : c.mg "zip" = none) (ha : EA c [e, e2] f) (hg : c.sc.names.lookup ("zip" : Str) = some .globalImplicit := by kernel_rfl)
    (hs : ∀ env, starEach [e, e2] env = (false, eval e env) :: starEach [e2] env := by intro _; rfl) (hpl : ∀ env, (backTo pos (starEach [e2] env)).any (·.1) = false := by intro _; rfl) :
    EI c (.Tuple elts kk tpos) (.Call (.Name "zip" p) [e, e2] [] pos) (srcL dZipS f) := fun G X W z => by
  refine pi_imp (pi_zipZ (Gn.gl (c := c) hg z) (by rw [z.mg]; exact hm) (ha G X W z) (hs _) (hpl _)) fun σ H R ⟨F, ρ, r, q⟩ => ?_
  refine tG_bind r q fun F1 H1 ρ1 x dx s1 R1 rx q1 => ?_
  obtain ⟨ds, e, k⟩ := q1.liftS R1
  unfold dZipS at e
  split at e
  case _ d1 d2 =>
    cases rx with
    | cons r1 rr =>
      cases rr with
      | cons r2 rr =>
        cases rr
        obtain ⟨xs, e1, e⟩ := Option.bind_eq_some_iff.mp e
        obtain ⟨ys, e2, e⟩ := Option.bind_eq_some_iff.mp e
        cases e
        obtain ⟨vx, S1, w1⟩ := zw_of R1.fh r1 e1
        obtain ⟨vy, S2, w2⟩ := zw_of R1.fh r2 e2
        rw [z.K]
        exact ⟨vx, vy, _, _, S1, S2, rfl, w1.q, w2.q, k _ (walks_zip w1 w2)⟩
  case _ => cases e
end
@[simp] theorem dZipS_ll (xs ys : List D) : dZipS [.lst xs, .lst ys] = some ((xs.zip ys).map fun p => .tup [p.1, p.2]) := nrfl rfl
@[simp] theorem dZipS_tl (xs ys : List D) : dZipS [.tup xs, .lst ys] = some ((xs.zip ys).map fun p => .tup [p.1, p.2]) := nrfl rfl
@[simp] theorem dZipS_lt (xs ys : List D) : dZipS [.lst xs, .tup ys] = some ((xs.zip ys).map fun p => .tup [p.1, p.2]) := nrfl rfl
@[simp] theorem dZipS_tt (xs ys : List D) : dZipS [.tup xs, .tup ys] = some ((xs.zip ys).map fun p => .tup [p.1, p.2]) := nrfl rfl
@[simp] theorem dZipS_st (cs : Cs) (ys : List D) : dZipS [.str cs, .tup ys] = some (((cs.map fun n => D.str [n]).zip ys).map fun p => .tup [p.1, p.2]) := nrfl rfl
end DL

/-! try with several clauses of one class each, named or not; a def that calls what it is handed within such a try -/
namespace DL
open PySem PySem.Spec PyProof.Rows L2
structure Cla where
  c : Value
  i : Option Nat
  ts : TSX
/-- what the clauses wish of an exception of the body, one behind the other -/
def wN (K : PySem.W.Frag) (Wout : WX) (D : Ends) : List Cla → WX
  | [] => Wout
  | q :: r => fun cls d σ H => ∃ b, PySem.W.exmOne K cls q.c = some b ∧ (b = true → ∀ (a : Addr) (oe : Obj), H a = none → Zc cls d oe → (∃ vs, oe.data = .fields vs) → match q.i with
      | some i => q.ts a oe cls d { nx := fun σ' H' => D.nx (σ'.set i none) H', rt := D.rt, bk := fun σ' H' => D.bk (σ'.set i none) H', ct := fun σ' H' => D.ct (σ'.set i none) H' } (σ.set i (some (.ref a))) H
      | none => q.ts a oe cls d D σ H) ∧ (b = false → wN K Wout D r cls d σ H)
inductive HdsN (X : Cx) : List ExceptHandler → List Cla → Prop
  | nil : HdsN X [] []
  | cons {x : Str} {c : Value} {ts : TSX} {b₀ : Stmt} {suite : List Stmt} {np pos' : Pos} {hds : List ExceptHandler} {l : List Cla} (hc : Names X x c)
      (hsu : ∀ (a : Addr) (oe : Obj) (cls : Value) (d : Option Addr) (pn : List (Addr × Obj)), Zc cls d oe → (∃ vs, oe.data = .fields vs) → PSs (X.suite a ((a, oe) :: pn)) (b₀ :: suite) (ts a oe cls d)) (r : HdsN X hds l) :
      HdsN X (.ExceptHandler (some (.Name x np)) none (b₀ :: suite) pos' :: hds) (⟨c, none, ts⟩ :: l)
  | name {x n : Str} {i : Nat} {c : Value} {ts : TSX} {b₀ : Stmt} {suite : List Stmt} {np pos' : Pos} {hds : List ExceptHandler} {l : List Cla} (hc : Names X x c) (hi : X.N[i]? = some n) (hln : X.env.kindOf n = some .local)
      (hsu : ∀ (a : Addr) (oe : Obj) (cls : Value) (d : Option Addr) (pn : List (Addr × Obj)), Zc cls d oe → (∃ vs, oe.data = .fields vs) → PSs (X.suite a ((a, oe) :: pn)) (b₀ :: suite) (ts a oe cls d)) (r : HdsN X hds l) :
      HdsN X (.ExceptHandler (some (.Name x np)) (some n) (b₀ :: suite) pos' :: hds) (⟨c, some i, ts⟩ :: l)
section
variable {X : Cx} {body : List Stmt} {h₀ : ExceptHandler} {hds : List ExceptHandler} {l : List Cla} {pos : Pos} {tb : WX → TS} {Wout : WX}
theorem ps_tryN (hs : X.stack = X.env :: X.outer) (hf : X.env.frame = some X.env.locals) (hN : X.N.Nodup) (tk : Takes X Wout)
    (hb : ∀ (W : WX) (pn : List (Addr × Obj)) (xe : Value → Shared → Prop), Takes (X.tr pn xe) W → PassesOwn (model X.prog X.w) X.A X.env xe → PSs (X.tr pn xe) body (tb W))
    (hh : HdsN X (h₀ :: hds) l) : PS X (.Try body (h₀ :: hds) [] [] pos) (fun D σ H => tb (wN X.K Wout D l) D σ H) := by
  refine ⟨fun pins s σ H D I h => ?_⟩
  have ok := I.ok
  have hfr : X.A.frames = some (X.env :: X.outer) := by rw [ok.frames, hs]
  refine wpAny_Try_except ?_
  refine wpAny_mono ((hb (wN X.K Wout D l) (X.pn ++ pins) (fun e s₁ => wpAny (model X.prog X.w) X.A (noteFrame e X.env) (fun _ s₂ => wpAny (model X.prog X.w) X.A (setFlight e none) (fun _ s₃ =>
    wpAny (model X.prog X.w) X.A (handleBy e X.env (h₀ :: hds)) (SP X pins D) X.xe s₃) X.xe s₂) X.xe s₁) (fun u s' xx => ?_) PassesOwn.looking).run [] s σ H D (I.toTry _) h) (fun f s1 hsp => ?_) (fun e s1 he => he)
  · obtain ⟨a, B, sI, pins', σ', H', cls, d, rfl, J', nb, up, sky, na, os, ag, w⟩ := xx
    have J : Inv X pins σ' H' sI := J'.ofTry ok
    have sky' : Sky B (X.env :: X.outer) a (Zc cls d) X.env.locals s'.heap := by rw [← hs]; exact sky
    show wpAny (model X.prog X.w) X.A (noteFrame (.ref a) X.env) _ _ _
    refine Sky.land Zc.steady hfr hf sky' fun h3 fl3 up3 => ?_
    have J3 : Inv X pins σ' H' { s' with heap := h3 } := J.landed nb fl3.1 (up.trans up3) os ag
    obtain ⟨oe3, vs3, he3, hz3, hd3⟩ := fl3.there
    have notFr : ∀ {h : Heap} {o : Obj} {vs : Array Value}, h.FunFrames B (X.env :: X.outer) → h.get? a = some o → o.data = .fields vs → a ∉ frs (X.env :: X.outer) := fun {h o vs} ff e dd hm => by
      obtain ⟨_, o', e', hnf⟩ := ff.mem hm
      rw [e] at e'; cases e'
      exact hnf _ dd
    have nfr := notFr fl3.2.2.1 he3 hd3
    have nL : a ≠ X.env.locals := fun z => nfr (List.mem_filterMap.mpr ⟨X.env, List.mem_cons_self, by rw [hf, z]⟩)
    have nF : a ∉ X.fs := fun hm => by
      obtain ⟨e, he, q⟩ := List.mem_filterMap.mp hm
      exact nfr (List.mem_filterMap.mpr ⟨e, List.mem_cons_of_mem _ he, q⟩)
    have S3 := J3.suite he3 hd3 na nL nF
    have LT : PySem.W.Looks (model X.prog X.w) h3 (typeOf (.ref a)) cls := fun A Q E s k q => wpAny_typeOf_ref (k _ _ he3) (by rw [hz3.1]; exact q)
    have test : ∀ {x : Str} {c : Value} {np : Pos} {Q : Value → Shared → Prop} {E : Value → Shared → Prop}, Names X x c → Q c { s' with heap := h3 } → wpAny (model X.prog X.w) (X.A.mark (some (.ref a))) (eval (.Name x np) X.env) Q E { s' with heap := h3 } := fun {x c np Q E} hc q => by
      obtain ⟨hg, hdbg, hm | ⟨hm, hv, hnn⟩⟩ := hc
      · exact ld_glob (X := X.suite a ((a, oe3) :: (X.pn ++ pins))) S3 hg hm q hdbg
      · exact ld_blt (X := X.suite a ((a, oe3) :: (X.pn ++ pins))) S3 hg hm hv q hnn hdbg
    have go : ∀ {hds' : List ExceptHandler} {l' : List Cla}, HdsN X hds' l' → wN X.K Wout D l' cls d σ' H' →
        wpAny (model X.prog X.w) X.A (handleBy (.ref a) X.env hds') (SP X pins D) X.xe { s' with heap := h3 } := by
      intro hds' l' hk
      induction hk with
      | nil =>
        intro w
        refine wpAny_handleBy_nil ?_
        obtain ⟨k1, k2, k3, oe, vs, T, oT, ts', he, hz, hd, h1, hr⟩ := id fl3
        unfold PySem.passOn
        refine wpAny_bind (wpAny_field he hd h1 ?_)
        rw [if_neg (show ¬ ((Value.ref T == Value.none) = true) from by simp)]
        have fin : wpAny (model X.prog X.w) X.A (setFlight (.ref a) X.env.frame) (fun _ s4 => wpAny (model X.prog X.w) X.A (throw (.ref a) : Sem Flow) (SP X pins D) X.xe s4) X.xe { s' with heap := h3 } := by
          rw [hf]
          refine HandSPX.setFlight_upZ fl3 fun h4 hh4 up4 => wpAny_throw (tk _ _ ?_)
          exact ⟨a, B, sI, pins, σ', H', cls, d, rfl, J, nb, (up.trans up3).trans up4, .inr (.inr (by rw [hs]; exact hh4)), na, os, ag, w⟩
        first
          | exact wpAny_bind (wpAny_pure (wpAny_bind fin))
          | exact wpAny_bind fin
      | @cons x c ts b₀ suite np pos' hds2 l2 hc hsu r ih =>
        intro w
        obtain ⟨b, hb1, hyes, hno⟩ := w
        refine wpAny_handleBy_cons (codeAny_handlers_test ?_) (by intro q; cases q)
        have LM := PySem.W.exm_one (M := model X.prog X.w) (J3.kIn) LT hb1
        refine test hc (LM.here ?_)
        cases b with
        | true =>
          refine codeAny_handlers_suite ?_
          refine HandSPX.lands_againZ fl3 fun h4 fl4 up4 => ?_
          have J4 : Inv X pins σ' H' { s' with heap := h4 } := J.landed nb fl4.1 ((up.trans up3).trans up4) os ag
          obtain ⟨oe4, vs4, he4, hz4, hd4⟩ := fl4.there
          have S4 := J4.suite he4 hd4 na nL nF
          refine wpAny_mono ((hsu a oe4 cls d (X.pn ++ pins) hz4 ⟨_, hd4⟩).run [] _ _ H' _ S4 (hyes rfl a oe4 na hz4 ⟨_, hd4⟩)) (fun f s6 hsp => ?_) (fun _ _ z => False.elim z)
          cases f with
          | next =>
            obtain ⟨σ6, H6, S6, q6⟩ := hsp
            exact ⟨_, _, S6.unsuite ok, q6⟩
          | brk =>
            obtain ⟨σ6, H6, S6, q6⟩ := hsp
            exact ⟨_, _, S6.unsuite ok, q6⟩
          | cont =>
            obtain ⟨σ6, H6, S6, q6⟩ := hsp
            exact ⟨_, _, S6.unsuite ok, q6⟩
          | ret u =>
            obtain ⟨v6, σ6, H6, S6, r6, q6⟩ := hsp
            exact ⟨_, _, _, S6.unsuite ok, r6, q6⟩
        | false =>
          show wpAny _ X.A (handleBy (.ref a) X.env hds2) _ _ _
          exact ih (hno rfl)
      | @name x n i c ts b₀ suite np pos' hds2 l2 hc hi hln hsu r ih =>
        intro w
        obtain ⟨b, hb1, hyes, hno⟩ := w
        refine wpAny_handleBy_cons (codeAny_handlers_test ?_) (by intro q; cases q)
        have LM := PySem.W.exm_one (M := model X.prog X.w) (J3.kIn) LT hb1
        refine test hc (LM.here ?_)
        cases b with
        | true =>
          refine codeAny_handlers_suite_as ?_
          refine HandSPX.lands_againZ fl3 fun h4 fl4 up4 => ?_
          have J4 : Inv X pins σ' H' { s' with heap := h4 } := J.landed nb fl4.1 ((up.trans up3).trans up4) os ag
          obtain ⟨oe4, vs4, he4, hz4, hd4⟩ := fl4.there
          have S4 := J4.suite he4 hd4 na nL nF
          refine store_ok (X := X.suite a ((a, oe4) :: (X.pn ++ pins))) (v := .ref a) S4 hN hi (.inl hln) rfl (fun s5 S5 => ?_) (.inr hln)
          refine wpAny_mono ((hsu a oe4 cls d (X.pn ++ pins) hz4 ⟨_, hd4⟩).run [] s5 _ H' _ S5 (hyes rfl a oe4 na hz4 ⟨_, hd4⟩)) (fun f s6 hsp => ?_) (fun _ _ z => False.elim z)
          have fin : ∀ {σ6 : L2.St} {H6 : Hp} {Q : Shared → Prop}, L2.Inv (X.suite a ((a, oe4) :: (X.pn ++ pins))) [] σ6 H6 s6 → (∀ s7, L2.Inv X pins (σ6.set i none) H6 s7 → Q s7) →
              wpAny (model X.prog X.w) X.A (do bindName X.env n .none; unbindBehindTheSuite X.env n pos') (fun _ s7 => Q s7) X.xe s6 := fun {σ6 H6 Q} S6 hq => gone_ok (S6.unsuite ok) hN hi hln hq
          cases f with
          | next => exact let ⟨σ6, H6, S6, q6⟩ := hsp; fin S6 fun s7 J7 => ⟨_, _, J7, q6⟩
          | brk => exact let ⟨σ6, H6, S6, q6⟩ := hsp; fin S6 fun s7 J7 => ⟨_, _, J7, q6⟩
          | cont => exact let ⟨σ6, H6, S6, q6⟩ := hsp; fin S6 fun s7 J7 => ⟨_, _, J7, q6⟩
          | ret u => exact let ⟨v6, σ6, H6, S6, r6, q6⟩ := hsp; fin S6 fun s7 J7 => ⟨_, _, _, J7, r6, q6⟩
        | false =>
          show wpAny _ X.A (handleBy (.ref a) X.env hds2) _ _ _
          exact ih (hno rfl)
    exact go hh w
  · cases f with
    | next =>
      obtain ⟨σ', H', J', q⟩ := hsp
      exact wpAny_execs_nil ⟨σ', H', J'.ofTry ok, q⟩
    | brk =>
      obtain ⟨σ', H', J', q⟩ := hsp
      exact ⟨σ', H', J'.ofTry ok, q⟩
    | cont =>
      obtain ⟨σ', H', J', q⟩ := hsp
      exact ⟨σ', H', J'.ofTry ok, q⟩
    | ret u =>
      obtain ⟨v, σ', H', J', r, q⟩ := hsp
      exact ⟨v, σ', H', J'.ofTry ok, r, q⟩
end
/-! ### the def that catches -/
/-- a clause as it is read: its class, the name's slot, the suite -/
structure ClR where
  cl : String
  i : Option Nat
  m : M Fl
def clEn (n : Nat) (i : Option Nat) (x : Xc) : En := match i with
  | some i => un1 n i (.xc x)
  | none => un1 n 0 .un
def catXN (n : Nat) : List ClR → Xc → Option D
  | [], _ => none
  | q :: r, x => if x.c = q.cl then (match q.m (clEn n q.i x) with
    | .ok (.rt d) _ => some d
    | _ => none) else catXN n r x
/-- clauses by their text -/
inductive ClsR (b : Base) (k : Nat) (N : List Str) (sc : Scope) : List ExceptHandler → List ClR → Prop
  | nil : ClsR b k N sc [] []
  | cons {cl : String} {m : M Fl} {b₀ : Stmt} {suite : List Stmt} {np pos' : Pos} {hds : List ExceptHandler} {l : List ClR} (hg : sc.names.lookup (Str.ofString cl) = some .globalImplicit) (hd : (Str.ofString cl == ("__debug__" : Str)) = false)
      (hs : ∀ p, ESs (stX b N sc k p) (b₀ :: suite) m) (r : ClsR b k N sc hds l) : ClsR b k N sc (.ExceptHandler (some (.Name (Str.ofString cl) np)) none (b₀ :: suite) pos' :: hds) (⟨cl, none, m⟩ :: l)
  | name {cl : String} {n : Str} {i : Nat} {m : M Fl} {b₀ : Stmt} {suite : List Stmt} {np pos' : Pos} {hds : List ExceptHandler} {l : List ClR} (hg : sc.names.lookup (Str.ofString cl) = some .globalImplicit) (hd : (Str.ofString cl == ("__debug__" : Str)) = false)
      (hi : N[i]? = some n) (hln : sc.names.lookup n = some .local) (hs : ∀ p, ESs (stX b N sc k p) (b₀ :: suite) m) (r : ClsR b k N sc hds l) : ClsR b k N sc (.ExceptHandler (some (.Name (Str.ofString cl) np)) (some n) (b₀ :: suite) pos' :: hds) (⟨cl, some i, m⟩ :: l)
/-- each class of the rows is caught by itself alone -/
structure CaN (b : Base) (tb : ErTab) (cs : List String) : Prop where
  g : ∀ t ∈ cs, ∃ T, b.mg (Str.ofString t) = some (.ref T)
  c : ∀ r ∈ tb, ∀ t ∈ cs, ∀ C T, b.mg (Str.ofString r.1) = some (.ref C) → b.mg (Str.ofString t) = some (.ref T) → PySem.W.exmOne b.K (.ref C) (.ref T) = some (decide (r.1 = t))
structure CatNB (b : Base) (k : Nat) (N : List Str) (a : Str) (sc : Scope) (ss : List Stmt) (tb : ErTab) (gO : D → Option D) (gX : Xc → Option D) : Prop where
  ex : ∃ (it : Nat) (told : Str) (q1 q2 q3 q4 pos : Pos) (h₀ : ExceptHandler) (hds : List ExceptHandler) (rest : List Stmt) (cs : List ClR) (mR : M Fl),
    ss = .Try [.Assign [.Name told q1] (.Call (.Name a q2) [] [] q3) q4] (h₀ :: hds) [] [] pos :: rest ∧
    N[0]? = some a ∧ sc.names.lookup a = some .local ∧ (a == ("__debug__" : Str)) = false ∧ (a == ("__classdict__" : Str)) = false ∧
    N[it]? = some told ∧ sc.names.lookup told = some .local ∧ 0 < it ∧
    CaN b tb (cs.map (·.cl)) ∧ ClsR b k N sc (h₀ :: hds) cs ∧ ESs (stOf b N sc k 1) rest mR ∧ gO = catO N.length it mR ∧ gX = catXN N.length cs
structure CatN (b : Base) (k : Nat) (x : Str) (tb : ErTab) (gO : D → Option D) (gX : Xc → Option D) : Prop where
  ex : ∃ (st : Stmt) (g : Addr) (fd : FuncData) (N : List Str) (a : Str), Fun b.K x x st g fd ∧ b.mg x = some (.ref g) ∧ PySem.W.keepIn b.K (.ref g) = true ∧ Binds b.K fd [a] [] ∧ FnScope N [a] (defScope st) ∧ CatNB b k N a (defScope st) (defBody st) tb gO gX
section
variable {c : Stat}
theorem ed_cauN {k kl : Nat} {x q : Str} {c0 : Addr} {tb : ErTab} {gO : D → Option D} {gX : Xc → Option D} {m : M D} {prm : Arguments} {bd : Expr} {sco : Scope} {p lp pos : Pos} (cl : CatN c.toBase k x tb gO gX) (hlm : c.lam = some (q, c0)) (LT : LamT c.toBase c0 q) (hk : k + 1 ≤ c.k) (hkl : kl + 2 ≤ c.k) (hg : Gn c x)
    (L : LamX.LamS c.sc sco) (hm : ED (stL c sco kl) bd m) (hdef : ∀ env, defaultsOf prm env = ([], [])) (hbind : ∀ (q : Str) (cl : List (Str × Addr)) (pm cv ctv : Value), bindArgs (PySem.W.kla_fn "<lambda>" q prm bd sco cl pm cv ctv) ⟨[], []⟩ = pure [])
    (hdb : (x == ("__debug__" : Str)) = false := by decide) (hc : c.hot = false := by first | rfl | assumption) : ED c (.Call (.Name x p) [.Lambda prm bd sco lp] [] pos) (cauM tb gO gX m) := fun G X W z => by
  obtain ⟨st, g, fd, N, a, Fn, hmg, kp, hb, S, B⟩ := cl.ex
  obtain ⟨it, told, q1, q2, q3, q4, pos1, h₀, hds, rest, cs, mR, hss, ha0, hsa, ha1, ha2, ht0, hst, hit, CN, CR', hR, rfl, rfl⟩ := B.ex
  obtain ⟨oc, od, kV, doc, pm, an, cdv, ct, osl, rfl, lk, hcd⟩ := Fn.ex
  obtain ⟨P, TB, hmT, hu⟩ := LT.ex
  obtain ⟨hq, hcode⟩ := z.lm q c0 hlm
  have L' : LamX.LamS X.env.scope sco := by rw [z.sc]; exact L
  have hr := z.cold hc
  have ext : c.xt = ⟨c.T, none⟩ := by unfold Stat.xt; rw [z.xh hc]
  subst hq
  refine ⟨fun pins s σ H Q I ⟨F, ρ, R, qq⟩ => ?_⟩
  refine wpAny_Call_Name_kw (ld_glob I (hg.gl z) (by rw [z.mg]; exact hmg) ?_ hdb)
  refine PySem.W.callWith_K (h₀ := X.base) I.ok.mod.kin (by rw [z.K]; exact kp) ?_ (by rfl) (by rfl)
  show wpAny _ _ (spliced ((false, eval (.Lambda prm bd sco lp) X.env) :: backTo pos (starEach [] X.env))) _ _ s
  refine Calls.spliced_cons (lam_made I (by rw [z.base, z.mg]; exact TB) hcode (R.tb.t _ hmT) (hdef _) (L'.has I.ok) fun f c1 pm' ctv H1 s1 I1 kk1 T1 hf hfn hfr hco => ?_)
  refine Calls.spliced_nil ⟨I1.kIn, ?_⟩
  have R1 := R.lam hmT hu kk1 T1
  rw [ext] at R1
  have hk' : (c.k - 2) + 2 = c.k := by omega
  have rc : codeAny (model X.prog X.w) X.A (.call (.ref g) ⟨[.ref f], []⟩) (CR C8.CX0 X.stack X.prog X.w H1 s1 Q C8.E0) s1 := by
    refine LamX.run_ofS (k := c.k - 1) (N := N) (ps := [a]) (us := [.ref f]) (vs := [.ref f]) (by rw [z.K]; exact lk) (by rw [z.K]; exact hcd) S (hr.mono (by omega)) I1.env0 (hb s1 [.ref f] (by rw [← z.K]; exact I1.kIn) rfl) (.cons rfl .nil) rfl fun hr' => ?_
    have hZ : L2H.RoomH k (X.A.deeper (envOfC x (defScope st) s1.heap.objs.size g cdv)) := L2H.roomH_of (hr'.mono (by omega))
    rw [hss]
    let tbF : WX → TS := fun W D σZ HZ => ∃ E : XK, (∀ cls d H', E cls d H' → W cls d σZ H') ∧ σZ[0]? = some (some (.ref f)) ∧ HZ c1 = some (LamX.CodeO c1 (lq X)) ∧ tD (stL c sco kl) G (fun cls d _ H => E cls d H) m σ HZ (fun v H2 => D.nx (σZ.set it (some v)) H2)
    let tsF : M Fl → TSX := fun mS a' oe cls d Z' σ' H' => ∃ G' : Ent, G'.pa = [] ∧ tS (stX c.toBase N (defScope st) k (a', oe)) G' (fun _ _ _ _ => False) mS Z' σ' H'
    let clO : String → Value := fun t => match c.mg (Str.ofString t) with
      | some v => v
      | none => .none
    let ll : List Cla := cs.map fun q => ⟨clO q.cl, q.i, tsF q.m⟩
    let tR : TS := fun Z' σ' H' => ∃ G' : Ent, G'.pa = [] ∧ tS (stOf c.toBase N (defScope st) k 1) G' (fun _ _ _ _ => False) mR Z' σ' H'
    let XX := (cxOf C8.CX0 X.prog X.w X.K X.mg X.base N x (defScope st) g cdv X.A X.stack s1 H1 C8.E0).nox
    have suiteR : ∀ {ss : List Stmt} {mS : M Fl}, (∀ p, ESs (stX c.toBase N (defScope st) k p) ss mS) → ∀ (a' : Addr) (oe : Obj) (cls : Value) (d : Option Addr) (pn : List (Addr × Obj)), Zc cls d oe → (∃ vs, oe.data = .fields vs) → PSs (XX.suite a' ((a', oe) :: pn)) ss (tsF mS a' oe cls d) := by
      intro ss mS hS a' oe cls d pn hz hfl
      refine ⟨fun pins s' σ' H' D I' ⟨G', hG, h'⟩ => ?_⟩
      refine (hS (a', oe) G' _ (fun _ _ _ _ => False) (fun p hp => by rw [hG] at hp; cases hp) ?_).run pins s' σ' H' D I' h'
      exact { P := z.P, w := z.w, K := z.K, mg := z.mg, base := z.base, N := rfl, sc := rfl, nd := S.nd, fnc := fun _ _ => rfl, calm := (fun e => nomatch e), lm := (fun _ _ e => nomatch e), room := ⟨hZ.dp, hZ.un⟩, hd := (fun e => nomatch e), xp := (fun q e => by cases e; exact List.mem_cons_self), xh := (fun e => nomatch e), gd := z.gd, fr := (fun e => nomatch e), tk := LamX.takes0, po := PassesOwn.never }
    have hdsR : ∀ {hs : List ExceptHandler} {l : List ClR}, ClsR c.toBase k N (defScope st) hs l → (∀ t ∈ l.map (·.cl), ∃ T, c.mg (Str.ofString t) = some (.ref T)) → HdsN XX hs (l.map fun q => ⟨clO q.cl, q.i, tsF q.m⟩) := by
      intro hs l hr
      induction hr with
      | nil => exact fun _ => .nil
      | @cons cl m b₀ suite np pos' hds l hg hd hs r ih =>
        intro hT
        obtain ⟨T, hT1⟩ := hT cl List.mem_cons_self
        refine .cons ⟨hg, hd, .inl ?_⟩ (suiteR hs) (ih fun t ht => hT t (List.mem_cons_of_mem _ ht))
        show X.mg _ = some (clO cl)
        rw [z.mg]
        simp only [clO, hT1]
      | @name cl n i m b₀ suite np pos' hds l hg hd hi hln hs r ih =>
        intro hT
        obtain ⟨T, hT1⟩ := hT cl List.mem_cons_self
        refine .name ⟨hg, hd, .inl ?_⟩ hi hln (suiteR hs) (ih fun t ht => hT t (List.mem_cons_of_mem _ ht))
        show X.mg _ = some (clO cl)
        rw [z.mg]
        simp only [clO, hT1]
    have tryR : PS XX (.Try [.Assign [.Name told q1] (.Call (.Name a q2) [] [] q3) q4] (h₀ :: hds) [] [] pos1)
        (fun D σ' H' => tbF (wN X.K (fun _ _ _ _ => False) D ll) D σ' H') := by
      refine ps_tryN (X := XX) (tb := tbF) (l := ll) (Wout := fun _ _ _ _ => False) rfl rfl S.nd takes_none5 (fun W' pn xe tk po => ?_) (hdsR CR' CN.g)
      have hp := act_lam (CXg := C8.CX0) (Eg := C8.E0) (k := c.k - 2) (tb := fun E => tD (stL c sco kl) G (fun cls d _ H => E cls d H) m) (p1 := q2) (p2 := q3) I1 L' hf hfn hfr (hbind _ _ _ _ _) tk (hr'.mono (by omega)) (fun E s2 H2 hr2 => hm G _ _ (cz_lam z hc L (hr2.mono (by omega)))) ha0 (.inl hsa) ha1 ha2
      have hq := pss_one (ps_set (i := it) (pos := q4) (pos' := q1) S.nd ht0 (.inl hst) hp rfl (.inr hst))
      exact ⟨fun pins s' σ' H' D I' h' => hq.run pins s' σ' H' D I' h'⟩
    have resR : PSs XX rest tR := by
      refine ⟨fun pins s' σ' H' D I' ⟨G', hG, h'⟩ => ?_⟩
      refine (hR G' _ (fun _ _ _ _ => False) (fun p hp => by rw [hG] at hp; cases hp) ?_).run pins s' σ' H' D I' h'
      exact { P := z.P, w := z.w, K := z.K, mg := z.mg, base := z.base, N := rfl, sc := rfl, nd := S.nd, fnc := fun _ _ => rfl, calm := fun _ => rfl, lm := (fun _ _ e => nomatch e), room := hZ, hd := (fun _ => hr'.hd), xp := (fun q e => nomatch e), xh := (fun _ => rfl), gd := z.gd, fr := fun _ => ⟨rfl, rfl⟩, tk := LamX.takes0, po := PassesOwn.never }
    refine ⟨_, (pss_cons tryR resR).nox, ?_⟩
    have hlen : (L2.start N [V.ref f]).length = N.length := by
      have hN : 1 ≤ N.length := by
        have := (List.getElem?_eq_some_iff.mp ha0).1
        omega
      unfold L2.start
      simp
      omega
    have hitl := (List.getElem?_eq_some_iff.mp ht0).1
    refine ⟨fun cls d H' => wN X.K (fun _ _ _ _ => False) { nx := tR { nx := fun _ H' => Q .non H', rt := Q }, rt := Q } ll cls d (L2.start N [V.ref f]) H', fun _ _ _ h => h, start_get (vs := [V.ref f]) rfl, hco, ?_⟩
    refine ⟨F, ρ, R1, ?_⟩
    unfold cauM at qq
    cases em : m ρ with
    | bad => rw [em] at qq; exact qq.elim
    | ok d ρ' =>
      rw [em] at qq
      cases hgo : catO N.length it mR d with
      | none => simp only [hgo] at qq; exact qq.elim
      | some r =>
      simp only [hgo] at qq
      intro v F' H' sF R' rv
      refine ⟨⟨F', H', []⟩, rfl, F', _, rel_un1 (b := c.toBase) (n := N.length) (i := it) (s := .fz d) (xe := none) R'.fh R'.tb (by rw [List.length_set]; exact hlen) (fun _ z => nomatch z) (fun d' z => by cases z; exact ⟨v, List.getElem?_set_self (by rw [hlen]; exact hitl), rv⟩) (fun _ z => nomatch z), ?_⟩
      unfold catO at hgo
      split at hgo
      case h_2 => cases hgo
      rename_i r' ρ2 em2
      cases hgo
      show PostS _ _ _ _ (mR (un1 N.length it (.fz d))) _
      rw [em2]
      exact fun v2 σ2 F2 H2 s2 R2 rv2 => qq v2 F2 H2 (sF.trans s2) (by rw [ext]; exact Rel.fin (c := stL c sco kl) R' (finX rfl s2 R2)) rv2
    | err xc ρ' =>
      rw [em] at qq
      dsimp only at qq
      split at qq
      case isFalse => exact qq.elim
      rename_i hso
      obtain ⟨row, hrow⟩ := Option.isSome_iff_exists.mp hso
      obtain ⟨hr1, hr2⟩ := erOf_some hrow
      cases hgo : catXN N.length cs xc with
      | none => simp only [hgo] at qq; exact qq.elim
      | some r =>
      simp only [hgo] at qq
      intro F' H' cls d sF R' xr
      obtain ⟨C, k1, k2, k3⟩ := id xr
      -- the clauses, one behind the other
      have go : ∀ {hs : List ExceptHandler} {l : List ClR}, ClsR c.toBase k N (defScope st) hs l → (∀ t ∈ l.map (·.cl), t ∈ cs.map (·.cl)) → catXN N.length l xc = some r →
          wN X.K (fun _ _ _ _ => False) { nx := tR { nx := fun _ H' => Q .non H', rt := Q }, rt := Q } (l.map fun q => ⟨clO q.cl, q.i, tsF q.m⟩) cls d (L2.start N [V.ref f]) H' := by
        intro hs l hr
        induction hr with
        | nil => intro _ h; cases h
        | @cons cl m b₀ suite np pos' hds l hg hd hs rr ih =>
          intro hT h
          obtain ⟨T, hT1⟩ := CN.g cl (hT cl List.mem_cons_self)
          refine ⟨decide (row.1 = cl), ?_, fun e a' oe na hz hfl => ?_, fun e => ih (fun t ht => hT t (List.mem_cons_of_mem _ ht)) ?_⟩
          · show PySem.W.exmOne X.K cls (clO cl) = _
            simp only [clO, hT1]
            rw [k2, z.K]
            exact CN.c row hr1 cl (hT cl List.mem_cons_self) C T (by rw [hr2]; exact k1) hT1
          · have e := of_decide_eq_true e
            unfold catXN at h
            rw [if_pos (by rw [← hr2]; exact e)] at h
            dsimp only [clEn] at h
            split at h
            case h_2 => cases h
            rename_i d' ρ2 em2
            cases h
            refine ⟨⟨F', H', []⟩, rfl, F', _, rel_un1 (b := c.toBase) (n := N.length) (i := 0) (s := .un) (xe := some (a', oe)) R'.fh R'.tb hlen (fun _ z => nomatch z) (fun _ z => nomatch z) (fun y z => nomatch z), ?_⟩
            show PostS _ _ _ _ (m (un1 N.length 0 .un)) _
            rw [em2]
            exact fun v2 σ2 F2 H2 s2 R2 rv2 => qq v2 F2 H2 (sF.trans s2) (by rw [ext]; exact Rel.fin (c := stL c sco kl) R' (finX rfl s2 R2)) rv2
          · have e := of_decide_eq_false e
            unfold catXN at h
            rw [if_neg (by rw [← hr2]; exact e)] at h
            exact h
        | @name cl n i m b₀ suite np pos' hds l hg hd hi hln hs rr ih =>
          intro hT h
          have hil := (List.getElem?_eq_some_iff.mp hi).1
          obtain ⟨T, hT1⟩ := CN.g cl (hT cl List.mem_cons_self)
          refine ⟨decide (row.1 = cl), ?_, fun e a' oe na hz hfl => ?_, fun e => ih (fun t ht => hT t (List.mem_cons_of_mem _ ht)) ?_⟩
          · show PySem.W.exmOne X.K cls (clO cl) = _
            simp only [clO, hT1]
            rw [k2, z.K]
            exact CN.c row hr1 cl (hT cl List.mem_cons_self) C T (by rw [hr2]; exact k1) hT1
          · have e := of_decide_eq_true e
            unfold catXN at h
            rw [if_pos (by rw [← hr2]; exact e)] at h
            dsimp only [clEn] at h
            split at h
            case h_2 => cases h
            rename_i d' ρ2 em2
            cases h
            refine ⟨⟨F', H', []⟩, rfl, F', _, rel_un1 (b := c.toBase) (n := N.length) (i := i) (s := .xc xc) (xe := some (a', oe)) R'.fh R'.tb (by rw [List.length_set]; exact hlen) (fun _ z => nomatch z) (fun _ z => nomatch z)
              (fun y z => by cases z; exact ⟨(a', oe), cls, d, rfl, List.getElem?_set_self (by rw [hlen]; exact hil), hz, hfl, xr⟩), ?_⟩
            show PostS _ _ _ _ (m (un1 N.length i (.xc xc))) _
            rw [em2]
            exact fun v2 σ2 F2 H2 s2 R2 rv2 => qq v2 F2 H2 (sF.trans s2) (by rw [ext]; exact Rel.fin (c := stL c sco kl) R' (finX rfl s2 R2)) rv2
          · have e := of_decide_eq_false e
            unfold catXN at h
            rw [if_neg (by rw [← hr2]; exact e)] at h
            exact h
      exact go CR' (fun _ ht => ht) hgo
  refine wpAny_call (codeAny_mono rc fun r s2 hq => ?_)
  cases r with
  | error e => exact (show False from hq).elim
  | ok fl =>
    cases fl with
    | ret u => exact I1.after hq
    | next => exact False.elim hq
    | brk => exact False.elim hq
    | cont => exact False.elim hq
theorem xcauN (kl : Nat) {k : Nat} {x q : Str} {c0 : Addr} {tb : ErTab} {gO : D → Option D} {gX : Xc → Option D} {m : M D} {prm : Arguments} {bd : Expr} {sco : Scope} {p lp pos : Pos} (cl : CatN c.toBase k x tb gO gX) (LT : LamT c.toBase c0 q) (hm : ED (stL c sco kl) bd m) (hlm : c.lam = some (q, c0) := by rfl)
    (hk : Nat.ble (k + 1) c.k = true := by kernel_rfl) (hkl : Nat.ble (kl + 2) c.k = true := by kernel_rfl) (hg : c.sc.names.lookup x = some .globalImplicit := by kernel_rfl) (L : LamX.lamSB c.sc sco = true := by kernel_rfl) (hdef : ∀ env, defaultsOf prm env = ([], []) := by intro _; rfl)
    (hbind : ∀ (q : Str) (cl : List (Str × Addr)) (pm cv ctv : Value), bindArgs (PySem.W.kla_fn "<lambda>" q prm bd sco cl pm cv ctv) ⟨[], []⟩ = pure [] := by intro _ _ _ _ _; rfl) (hdb : (x == ("__debug__" : Str)) = false := by kernel_rfl) (hc : c.hot = false := by first | rfl | assumption) :
    ED c (.Call (.Name x p) [.Lambda prm bd sco lp] [] pos) (cauM tb gO gX m) := ed_cauN cl hlm LT (Nat.le_of_ble_eq_true hk) (Nat.le_of_ble_eq_true hkl) hg (LamX.lamS_by L) hm hdef hbind hdb hc
end
/-! ### the facts of the top -/
section
variable {K : PySem.W.Frag} {h : Heap} {mg : Str → Option Value} {P : Program} {w : World} {base : Heap} {Ts : List (Addr × Str)}
def caNB (K : PySem.W.Frag) (l : List (String × Addr)) (tb : ErTab) (cs : List String) : Bool :=
  (cs.all fun t => (l.map (·.1)).contains t) && tb.all fun r => (l.map (·.1)).contains r.1 && l.all fun p => p.1 != r.1 || cs.all fun t => l.all fun p' => p'.1 != t || optB (PySem.W.exmOne K (.ref p.2) (.ref p'.2)) (decide (r.1 = t))
end
end DL

/-! the frame's own instances: made, their methods and properties called; errors without a field -/
namespace DL
open PySem PySem.Spec PyProof.Rows L2
section
variable {c : Stat}
/-- own.m(..), the thing in slot i an instance of cl -/
def metR (cl m : String) (g : List D → OutF) (i : Nat) (a : M (List D)) : M D := fun ρ => match ρ[i]? with
  | some (.ow (.ins c fs)) => if c = cl ∧ (lookF m fs).isNone = true then calR g i a ρ else .bad
  | _ => .bad
theorem metR_at {cl m : String} {g : List D → OutF} {i : Nat} {a : M (List D)} {ρ : En} {G : Ent} {W : WX} {F H : Hp} {σ : L2.St} {Q : VK} {C : Addr} (kc : ClD c.toBase cl C) (R : Rel c.K c.mg c.xt G F H σ ρ) (q : Post (Dn c.K c.mg) c G W F σ (metR cl m g i a ρ) Q) :
    ∃ ad dx fs, σ[i]? = some (some (.ref ad)) ∧ H ad = some (.ins C dx fs) ∧ fs.lookup (Str.ofString m) = none ∧ Post (Dn c.K c.mg) c G W F σ (calR g i a ρ) Q := by
  unfold metR at q
  split at q
  case h_2 => exact q.elim
  rename_i cc fs e
  split at q
  case isFalse => exact q.elim
  rename_i hc
  obtain ⟨ad, h0, ow⟩ := R.ow i _ e
  obtain ⟨C', dx, vs, g1, h1, h2⟩ := ow.at_
  rw [hc.1] at g1
  have := kc.same g1
  subst this
  exact ⟨ad, dx, vs, h0, h1, dfs_none h2 (by simpa using hc.2), q⟩
theorem xmetR (i : Nat) {k : Nat} {cl m : String} {y : Str} {g : List D → OutF} {e : Expr} {es : List Expr} {f : M (List D)} {p2 apos pos : Pos} {pl : Env → Sem Bool} (me : MetD c.toBase k cl m [0] g) (ha : EA c (e :: es) f) (hk : Nat.ble k c.k = true := by kernel_rfl) (hN : c.N[i]? = some y := by kernel_rfl) (hv : visB c.sc y = true := by kernel_rfl)
    (hst : ∀ env, starEach (e :: es) env = (false, eval e env) :: starEach es env := by intro _; rfl) (hpl : ∀ env, (backTo pos (starEach es env)).any (·.1) = false := by intro _; rfl)
    (ht : ∀ env, eval (.Call (.Attribute (.Name y p2) (Str.ofString m) apos) (e :: es) [] pos) env = (do
      let ov ← eval (.Name y p2) env
      standAt apos.atName
      let (f, first) ← holding [ov] (getMethod ov (Str.ofString m) (pl env))
      callWith pos f first (backTo pos (starEach (e :: es) env)) (backToKw pos (keywordEach [] env))) := by intro _; rfl) (hd : (y == ("__debug__" : Str)) = false := by kernel_rfl) (hcd : (y == ("__classdict__" : Str)) = false := by kernel_rfl) (hc : c.hot = false := by first | rfl | assumption) :
    ED c (.Call (.Attribute (.Name y p2) (Str.ofString m) apos) (e :: es) [] pos) (metR cl m g i f) := fun G X W z => by
  obtain ⟨C, fa, fd, ps, kc, mt, F, hb⟩ := me.ex
  have F' : FnG X.prog X.w X.K X.mg X.base k fa fd ps (spF c.toBase [0] g) := by rw [z.P, z.w, z.K, z.mg, z.base]; exact F
  have pv : PE X (.Name y p2) (tVar i) := pe_var (i := i) (by rw [z.N]; exact hN) (by rw [z.sc]; exact vis_of hv) hd hcd
  refine pe_imp (pe_methX (pl := pl X.env) pv (by rw [z.K]; exact kc.c) (by rw [z.K]; exact mt) F' ((z.cold hc).mono (Nat.le_of_ble_eq_true hk)) z.gd (by rw [z.K]; exact hb) (fun σ => passAt z.tk σ) (ha G X W z) (hst _) (hpl _) (ht _)) fun σ H Q ⟨F0, ρ, R, q⟩ => ?_
  obtain ⟨ad, dx, fs, h0, h1, h2, q⟩ := metR_at kc R q
  refine ⟨_, h0, ad, dx, fs, rfl, h1, h2, ?_⟩
  unfold calR own at q
  split at q
  case isFalse => exact q.elim
  refine tG_bind R q fun F1 H1 ρ1 vs ds s1 R1 rx q1 => ?_
  exact post_calR R1 rx h0 q1
theorem xmetR0 (i : Nat) {k : Nat} {cl m : String} {y : Str} {g : List D → OutF} {p2 apos pos : Pos} {pl : Env → Sem Bool} (me : MetD c.toBase k cl m [0] g) (hk : Nat.ble k c.k = true := by kernel_rfl) (hN : c.N[i]? = some y := by kernel_rfl) (hv : visB c.sc y = true := by kernel_rfl)
    (ht : ∀ env, eval (.Call (.Attribute (.Name y p2) (Str.ofString m) apos) [] [] pos) env = (do
      let ov ← eval (.Name y p2) env
      standAt apos.atName
      let (f, first) ← holding [ov] (getMethod ov (Str.ofString m) (pl env))
      callWith pos f first (backTo pos (starEach [] env)) (backToKw pos (keywordEach [] env))) := by intro _; rfl) (hd : (y == ("__debug__" : Str)) = false := by kernel_rfl) (hcd : (y == ("__classdict__" : Str)) = false := by kernel_rfl) (hc : c.hot = false := by first | rfl | assumption) :
    ED c (.Call (.Attribute (.Name y p2) (Str.ofString m) apos) [] [] pos) (metR cl m g i args0) := fun G X W z => by
  obtain ⟨C, fa, fd, ps, kc, mt, F, hb⟩ := me.ex
  have F' : FnG X.prog X.w X.K X.mg X.base k fa fd ps (spF c.toBase [0] g) := by rw [z.P, z.w, z.K, z.mg, z.base]; exact F
  have pv : PE X (.Name y p2) (tVar i) := pe_var (i := i) (by rw [z.N]; exact hN) (by rw [z.sc]; exact vis_of hv) hd hcd
  refine pe_imp (pe_methX0 (pl := pl X.env) pv (by rw [z.K]; exact kc.c) (by rw [z.K]; exact mt) F' ((z.cold hc).mono (Nat.le_of_ble_eq_true hk)) z.gd (by rw [z.K]; exact hb) (fun σ => passAt z.tk σ) (ht _)) fun σ H Q ⟨F0, ρ, R, q⟩ => ?_
  obtain ⟨ad, dx, fs, h0, h1, h2, q⟩ := metR_at kc R q
  refine ⟨_, h0, ad, dx, fs, rfl, h1, h2, ?_⟩
  unfold calR own at q
  split at q
  case isFalse => exact q.elim
  exact post_calR (vs := []) (ds := []) R .nil h0 q
/-- a new instance, the frame's own -/
def mkV (cl : String) (g : List D → OutF) (n m : Nat) (ix : List Nat) (a kw : M (List D)) : M Sl := bnd a fun ds => bnd kw fun es ρ => if ds.length = n ∧ es.length = m ∧ ix.head? = some 0 ∧ ix.tail.contains 0 = false then (match g (pick ix ((.ins cl [] :: ds) ++ es)) with
  | .ok .non [.ins cl' fs] => if cl' = cl then .ok (.ow (.ins cl fs)) ρ else .bad
  | .err x _ => .err x ρ
  | _ => .bad) else .bad
theorem post_mkV {G : Ent} {W : WX} {σ : L2.St} {H F : Hp} {ρ : En} {cl : String} {C : Addr} {n m : Nat} {ix : List Nat} {vs zs : List V} {ds es : List D} {g : List D → OutF} {Q : VK} (k : ClD c.toBase cl C) (R : Rel c.K c.mg c.xt G F H σ ρ) (r : Dns c.K c.mg F vs ds) (rz : Dns c.K c.mg F zs es)
    (q : PostV c G W F σ (if ds.length = n ∧ es.length = m ∧ ix.head? = some 0 ∧ ix.tail.contains 0 = false then (match g (pick ix ((.ins cl [] :: ds) ++ es)) with
      | .ok .non [.ins cl' fs] => if cl' = cl then .ok (.ow (.ins cl fs)) ρ else .bad
      | .err x _ => .err x ρ
      | _ => .bad) else .bad : Out Sl) Q) : vs.length = n ∧ zs.length = m ∧ ∀ x dx, H x = none → H dx = none → dx ≠ x →
      spF c.toBase [0] g (pick ix ((.ref x :: vs) ++ zs)) (upd (upd H dx (.own x)) x (.ins C dx [])) (fun v H3 => v = .non ∧ Q (.ref x) H3) (WE W σ) := by
  split at q
  case isFalse => exact q.elim
  rename_i h
  obtain ⟨h1, h2, h3, h4⟩ := h
  refine ⟨by rw [r.length]; exact h1, by rw [rz.length]; exact h2, fun x dx hx hdx hne => ?_⟩
  have hnew : ∀ b o, H b = some o → b ≠ x ∧ b ≠ dx := fun b o e => ⟨ne_of_none e hx, ne_of_none e hdx⟩
  have hH : Same H (upd (upd H dx (.own x)) x (.ins C dx [])) := fun b o e => by
    obtain ⟨q1, q2⟩ := hnew b o e
    rw [upd_ne q1, upd_ne q2]; exact e
  have sF := R.fh.trans hH
  have fx : F x = none := R.fh.free hx
  rw [List.cons_append, pick_cons h3] at *
  have er : pick ix.tail (V.ref x :: (vs ++ zs)) = pick ix.tail (V.non :: (vs ++ zs)) := pick_tail h4
  have ed : pick ix.tail (D.ins cl [] :: (ds ++ es)) = pick ix.tail (D.non :: (ds ++ es)) := pick_tail h4
  have rr : Dns c.K c.mg F (pick ix.tail (V.ref x :: (vs ++ zs))) (pick ix.tail (D.ins cl [] :: (ds ++ es))) := by
    rw [er, ed]
    exact dns_pick (.cons .non (r.append rz)) _
  generalize pick ix.tail (V.ref x :: (vs ++ zs)) = ws at rr
  generalize pick ix.tail (D.ins cl [] :: (ds ++ es)) = fs0 at rr q
  refine ⟨F, .ins cl [] :: fs0, sF, ⟨by simp [rr.length], fun i v d hi q1 q2 => ?_, fun i d hi q1 => ?_, fun i j y hij hi hj => ?_, ⟨R.tb.t.ext hH, R.tb.n⟩⟩, ?_⟩
  · cases i with
    | zero => exact absurd List.mem_cons_self hi
    | succ i =>
      simp at q1 q2
      obtain ⟨v', p1, p2⟩ := rr.get q2
      rw [q1] at p1; cases p1
      exact p2
  · have hi0 : i = 0 := by simpa using hi
    subst hi0
    simp at q1
    subst q1
    exact ⟨x, rfl, fx, C, dx, [], k.g, upd_same, .nil⟩
  · have hi0 : i = 0 := by simpa using hi
    have hj0 : j = 0 := by simpa using hj
    omega
  have ext : ∀ {es' : List D} {F' H' : Hp}, Fin c.toBase F (upd (upd H dx (.own x)) x (.ins C dx [])) [0] (V.ref x :: ws) es' F' H' → Fin c.toBase F H [] [] [] F' H' := fun {es' F' H'} f =>
    { ff := f.ff, fh := f.fh, tb := f.tb, tbs := fun b ps e => f.tbs b ps (hH b _ e), io := fun k i e q _ => by simp at q
      kept := fun b o e ht _ => by
        refine f.kept b o (hH b o e) ht fun i hi zz => ?_
        have hi0 : i = 0 := by simpa using hi
        subst hi0
        simp at zz
        exact (hnew b o e).1 zz.symm
      nn := fun b hb => f.nn b (by
        cases e : H b with
        | none => exact absurd e hb
        | some o => rw [hH b o e]; exact nofun) }
  cases e : g (.ins cl [] :: fs0) with
  | bad => simp only [e] at q; exact q
  | oko d es' => simp only [e] at q; exact q.elim
  | err y es' =>
    simp only [e] at q
    exact fun cls dd F' H' f xr => q F' H' cls dd f.ff (R.fin (ext f)) xr
  | ok d es' =>
    simp only [e] at q
    intro v F' H' f rv
    split at q
    · rename_i cl' fs' heq
      cases heq
      split at q
      case isFalse => exact q.elim
      rename_i hcl
      subst hcl
      cases rv
      refine ⟨rfl, ?_⟩
      obtain ⟨a, q1, q2, q3⟩ := f.io 0 0 _ rfl rfl
      simp at q1
      subst q1
      have R2 := R.fin (ext f)
      refine q (.ref x) F' H' f.ff R2 ⟨x, rfl, ⟨q2, .inl (R.h0_none hx), q3⟩, fun j e' hj zz => ?_⟩
      obtain ⟨b, w1, w2⟩ := R.ow j e' hj
      rw [zz] at w1
      cases w1
      exact w2.at_.some hx
    · rename_i heq
      cases heq
    · exact q.elim
theorem xev_mk {k n : Nat} {x : String} {ks : List Str} {ix : List Nat} {g : List D → OutF} {e : Expr} {es : List Expr} {kws : List Keyword} {f fk : M (List D)} {p pos : Pos} (cl : MakK c.toBase k x n ks ix g) (ha : EA c (e :: es) f) (hkw : EK c kws fk) (ok : KwOk kws ks pos := by intro _; exact ⟨rfl, rfl, rfl⟩) (hk : Nat.ble (k + 1) c.k = true := by kernel_rfl) (hg : c.sc.names.lookup (Str.ofString x) = some .globalImplicit := by kernel_rfl)
    (hdb : (Str.ofString x == ("__debug__" : Str)) = false := by decide) (he : ∀ env, starEach (e :: es) env = (false, eval e env) :: starEach es env := by intro _; rfl) (hpl : Few (e :: es) pos := by intro _; rfl) (hc : c.hot = false := by first | rfl | assumption) : EV c (.Call (.Name (Str.ofString x) p) (e :: es) kws pos) (mkV x g n ks.length ix f fk) := fun G X W z => by
  obtain ⟨C, fa, fd, ps, kc, M, F, hb⟩ := cl.ex
  have F' : FnG X.prog X.w X.K X.mg X.base k fa fd ps (spF c.toBase [0] g) := by rw [z.P, z.w, z.K, z.mg, z.base]; exact F
  obtain ⟨o1, o2, o3⟩ := ok X.env
  refine pe_imp (pe_makeG (by rw [z.K]; exact M) F' ((z.cold hc).mono (Nat.le_of_ble_eq_true hk)) z.gd (Gn.gl hg z) (by rw [z.mg]; exact kc.g) hb (fun σ => passAt z.tk σ) (ha G X W z) (hkw G X W z) o1 o2 hdb (he _) (by rw [hpl, o3]; rfl)) fun σ H Q ⟨F0, ρ, R, q⟩ => ?_
  refine tG_bindV R q fun F1 H1 ρ1 vs ds s1 R1 rx q1 => ?_
  refine tG_bindV R1 q1 fun F2 H2 ρ2 zs es s2 R2 rz q2 => ?_
  exact post_mkV kc R2 (rx.mono s2) rz q2
theorem xev_mk0 {k : Nat} {x : String} {ks : List Str} {ix : List Nat} {g : List D → OutF} {kws : List Keyword} {fk : M (List D)} {p pos : Pos} (cl : MakK c.toBase k x 0 ks ix g) (hkw : EK c kws fk) (ok : KwOk kws ks pos := by intro _; exact ⟨rfl, rfl, rfl⟩) (hk : Nat.ble (k + 1) c.k = true := by kernel_rfl) (hg : c.sc.names.lookup (Str.ofString x) = some .globalImplicit := by kernel_rfl)
    (hdb : (Str.ofString x == ("__debug__" : Str)) = false := by decide) (hc : c.hot = false := by first | rfl | assumption) : EV c (.Call (.Name (Str.ofString x) p) [] kws pos) (mkV x g 0 ks.length ix args0 fk) := fun G X W z => by
  obtain ⟨C, fa, fd, ps, kc, M, F, hb⟩ := cl.ex
  have F' : FnG X.prog X.w X.K X.mg X.base k fa fd ps (spF c.toBase [0] g) := by rw [z.P, z.w, z.K, z.mg, z.base]; exact F
  obtain ⟨o1, o2, o3⟩ := ok X.env
  refine pe_imp (pe_makeG0 (by rw [z.K]; exact M) F' ((z.cold hc).mono (Nat.le_of_ble_eq_true hk)) z.gd (Gn.gl hg z) (by rw [z.mg]; exact kc.g) hb (fun σ => passAt z.tk σ) (hkw G X W z) o1 o2 hdb (by rw [o3]; rfl)) fun σ H Q ⟨F0, ρ, R, q⟩ => ?_
  refine tG_bindV R (show PostV c G W F0 σ (bnd fk _ ρ) Q from q) fun F2 H2 ρ2 zs es s2 R2 rz q2 => ?_
  exact post_mkV (vs := []) (ds := []) (n := 0) kc R2 .nil rz q2
/-! ### properties of an own instance -/
structure PropR (b : Base) (k : Nat) (cl m : String) (g : List D → OutF) : Prop where
  ex : ∃ C p f fd ps, ClD b cl C ∧ PropOf b.K C (Str.ofString m) p f ∧ FnG b.P b.w b.K b.mg b.base k f fd ps (spF b [0] g) ∧ Binds b.K fd ps []
def proR (cl : String) (g : List D → OutF) (i : Nat) : M D := fun ρ => match ρ[i]? with
  | some (.ow (.ins c fs)) => if c = cl then (match g [.ins c fs] with
    | .ok d [e] => .ok d (ρ.set i (.ow e))
    | _ => .bad) else .bad
  | _ => .bad
theorem xproR (i : Nat) {k : Nat} {cl m : String} {y : Str} {g : List D → OutF} {p2 pos : Pos} (me : PropR c.toBase k cl m g) (hk : Nat.ble (k + 1) c.k = true := by kernel_rfl) (hN : c.N[i]? = some y := by kernel_rfl) (hv : visB c.sc y = true := by kernel_rfl) (hb : ∀ env x, attributeBase (.Name y p2) (Str.ofString m) env x = x := by intro _ _; rfl)
    (hd : (y == ("__debug__" : Str)) = false := by kernel_rfl) (hcd : (y == ("__classdict__" : Str)) = false := by kernel_rfl) (hc : c.hot = false := by first | rfl | assumption) : ED c (.Attribute (.Name y p2) (Str.ofString m) pos) (proR cl g i) := fun G X W z => by
  obtain ⟨C, p, fa, fd, ps, kc, mt, F, bi⟩ := me.ex
  have F' : FnG X.prog X.w X.K X.mg X.base k fa fd ps (spF c.toBase [0] g) := by rw [z.P, z.w, z.K, z.mg, z.base]; exact F
  have pv : PE X (.Name y p2) (tVar i) := pe_var (i := i) (by rw [z.N]; exact hN) (by rw [z.sc]; exact vis_of hv) hd hcd
  refine pe_imp (pe_propG pv (by rw [z.K]; exact kc.c) (by rw [z.K]; exact mt) F' ((z.cold hc).mono (Nat.le_of_ble_eq_true hk)) z.gd (by rw [z.K]; exact bi) (hb _ _)) fun σ H Q ⟨F0, ρ, R, q⟩ => ?_
  unfold proR at q
  split at q
  case h_2 => exact q.elim
  rename_i cc fs e0
  split at q
  case isFalse => exact q.elim
  rename_i hcl
  subst hcl
  obtain ⟨ad, h0, ow⟩ := R.ow i _ e0
  obtain ⟨C', dx, vs, g1, h1, h2⟩ := id ow.at_
  have := kc.same g1
  subst this
  refine ⟨_, h0, ad, dx, vs, rfl, h1, ?_⟩
  refine ⟨F0, [.ins cc fs], R.fh, ⟨rfl, fun k v d hk q1 q2 => ?_, fun k d hk q1 => ?_, fun k l x hkl hk hl => ?_, R.tb⟩, ?_⟩
  · cases k with
    | zero => exact absurd List.mem_cons_self hk
    | succ k => simp at q1
  · have hk0 : k = 0 := by simpa using hk
    subst hk0
    simp at q1
    subst q1
    exact ⟨ad, rfl, ow.nf, ow.at_⟩
  · have hk0 : k = 0 := by simpa using hk
    have hl0 : l = 0 := by simpa using hl
    omega
  · cases e : g [.ins cc fs] with
    | bad => simp only [e] at q; exact q
    | oko d es => simp only [e] at q; exact q.elim
    | err x es => simp only [e] at q; exact q.elim
    | ok d es =>
      simp only [e] at q
      intro v F' H' f rv
      match es, q, f with
      | [e'], q, f =>
        obtain ⟨a', q1, q2, q3⟩ := f.io 0 0 e' rfl rfl
        simp at q1
        subst q1
        refine q v F' H' f.ff (R.chg e0 h0 f.ff f.fh f.nn (fun x o hx ht hh => f.kept x o hh ht fun k hk zz => ?_) f.tbs f.tb q3) rv
        have hk0 : k = 0 := by simpa using hk
        subst hk0
        simp at zz
        exact hx zz.symm
/-! ### an error without a field -/
structure Er0T (K : PySem.W.Frag) (mg : Str → Option Value) (n : Str) (C : Addr) : Prop where
  gC : mg n = some (.ref C)
  bx : ∃ (B nw ini : String) (mr : List Value), ExcBaseFacts B nw ini mr ∧ PySem.W.excIn K C mr nw = true
  kC : PySem.W.keepIn K (.ref C) = true
  exC : PySem.W.subIn K (.ref C) (.type "BaseException") = some true
  tyC : PySem.W.typeIn K (.ref C) = some (.type "type")
theorem pmk_er0 {X : Cx} {C : Addr} {n : Str} {p pos : Pos} (T : Er0T X.K X.mg n C) (hg : Gl X n) (hdb : (n == ("__debug__" : Str)) = false) : PMk X (.Call (.Name n p) [] [] pos) (fun σ H Q => Q (.ref C) none H) := by
  obtain ⟨B, newId, initId, bmB, F, qx⟩ := T.bx
  intro pins s σ H Q I q1
  refine wpAny_Call_Name_kw (ld_glob I hg T.gC ?_ hdb)
  refine PySem.W.callWith_K0 (first := []) I.kIn T.kC ?_
  show wpAny _ _ (call (.ref C) []) _ _ _
  obtain ⟨bm, N, nm, qn, bs, hdct, sn, sub, ab, col, dd, k0, k1, k2, k3, k5, mN, hC, hN, hni, TT⟩ := exc_obj I.kIn qx
  refine wpAny_call_exc_subT F TT hC hN hni (fun h' e hm => ?_) (by rw [sizeLine_eq]; decide)
  exact mk_of I hm (raises_own T.exC T.tyC) q1 (I.hok.gone hm.new)
def rai0 (n : String) : M Fl := fun ρ => .err ⟨n, []⟩ ρ
theorem xraise0 {n : String} {p pos pos2 : Pos} (T : ∃ C, Er0T c.K c.mg (Str.ofString n) C)
    (hg : c.sc.names.lookup (Str.ofString n) = some .globalImplicit := by kernel_rfl) (hnd : (Str.ofString n == ("__debug__" : Str)) = false := by decide) (hc : c.hot = false := by first | rfl | assumption) :
    ES c (.Raise (some (.Call (.Name (Str.ofString n) p) [] [] pos)) none pos2) (rai0 n) := fun G X W pa z => by
  obtain ⟨C, T⟩ := T
  have T' : Er0T X.K X.mg (Str.ofString n) C := by rw [z.K, z.mg]; exact T
  refine ps_imp (ps_raise (z.calm hc) z.tk (pmk_er0 T' (Gn.gl (c := c) hg z) hnd)) fun D σ H h => ?_
  obtain ⟨F, ρ, R, q⟩ := h
  exact q σ F H (.ref C) none (Same.refl _) R ⟨C, T.gC, rfl, .inl ⟨rfl, rfl⟩⟩
end
end DL

/-! enumerate of a list, a tuple or a text -/
namespace DL
open PySem PySem.Spec PySem.Calls PyProof.Rows L2
theorem meets_enumB1 {v : Value} {o : Obj} {H : Heap → Prop} (B : Begins v o H) :
    Meets (Builtin.«enumerate.__new__» ⟨[.type "enumerate", v], []⟩) (fun _ R s => H s.heap ∧
      R (.ok (.ret (.ref (s.heap.push o).objs.size))) { s with heap := (s.heap.push o).push { cls := .type "enumerate", data := .fields #[.none, .bool false, .ref s.heap.objs.size, rawInt 0, .none, .none] } }) :=
  .of_wp fun prog w A R s h => by
    obtain ⟨hp, g, d, tk, os⟩ := s; obtain ⟨h1, h⟩ := h
    have hsub := sub_enumerate
    have q1 : ∀ {A' : Around} {E : Value → Shared → Prop} {Q : Value → Shared → Prop}, Q (.ref hp.objs.size) ⟨hp.push o, g, d, tk, os⟩ → wpAny (model prog w) A' (pyIter v) Q E ⟨hp, g, d, tk, os⟩ :=
      fun q => B.iter prog w _ _ ⟨hp, g, d, tk, os⟩ _ h1 q
    wp_walk using q1
    refine wpAny_stack_any fun st => wpAny_pure ?_
    split
    · rename_i c _ _ _ _ _
      cases (c == Value.type "enumerate")
      · wp_walk using q1
        exact ⟨_, rfl, h⟩
      · wp_walk using q1
        exact ⟨_, rfl, h⟩
    · wp_walk using q1
      exact ⟨_, rfl, h⟩
theorem enum_begins1 {prog : Program} {w : World} {A : Around} {E : Value → Shared → Prop} {s : Shared} {v : Value} {o : Obj} {H : Heap → Prop} {Q : Value → Shared → Prop} (B : Begins v o H) (h1 : H s.heap)
    (h : ∀ h', IsEnum h' (s.heap.objs.size + 1) s.heap.objs.size 0 .none → h'.get? s.heap.objs.size = some o → h'.objs.size = s.heap.objs.size + 2 →
      (∀ b o, s.heap.get? b = some o → h'.get? b = some o) → Q (.ref (s.heap.objs.size + 1)) { s with heap := h' }) :
    wpAny (model prog w) A (call (.type "enumerate") [v]) Q E s := by
  refine callType_new F.called_enumerate (by decide) (F.typeCall_enumerate_1 _) (F.newCall_enumerate_1 _) (fun obj => F.args_object_init_2 obj _) F.entry_enumerate_new
    (meets_enumB1 B) ⟨h1, ?_⟩
  have hz : (s.heap.push o).objs.size = s.heap.objs.size + 1 := Heap.size_push ..
  show _ ∧ _
  rw [hz]
  have he : IsEnum ((s.heap.push o).push { cls := .type "enumerate", data := .fields #[.none, .bool false, .ref s.heap.objs.size, rawInt 0, .none, .none] }) (s.heap.objs.size + 1) s.heap.objs.size 0 .none := by
    have := Heap.get?_push_size (s.heap.push o) (o := { cls := .type "enumerate", data := .fields #[.none, .bool false, .ref s.heap.objs.size, rawInt 0, .none, .none] }) rfl
    rw [hz] at this; exact this
  refine ⟨⟨_, he, rfl⟩, h _ he (Heap.get?_push_of_some _ (Heap.get?_push_size _ B.free)) (by rw [Heap.size_push, hz]) fun b o x => Heap.get?_push_of_some _ (Heap.get?_push_of_some _ x)⟩
def ItN (S : Hp → Prop) (xs : List V) : It :=
  ⟨fun i H => S H ∧ i < xs.length,
    fun i H v H' => ∃ T x, v = .ref T ∧ H T = none ∧ H' = upd H T (.tup [.int (i : Nat), x]) ∧ xs[i]? = some x,
    fun i H => S H ∧ xs.length ≤ i⟩
/-- the state of an enumerate ahead of turn i -/
def Etn (k : Zk) (n : Nat) (e it : Addr) (i : Nat) (h : Heap) : Prop :=
  i ≤ n ∧ (∃ old, IsEnum h e it ((i : Nat) : Int) old) ∧ k.sti it i h
theorem turn_enumZ {P : Program} {w : World} {K : PySem.W.Frag} {elts : List Expr} {kk N : Nat} {tpos : Pos} {k1 : Zk} {xs : List V} (b1 : ∀ b ∈ k1.src, b < N) :
    Turn P w K (.Tuple elts kk tpos) (ItN (fun H => k1.say K H xs) xs) [N + 1, N] (N + 1) (Etn k1 xs.length (N + 1) N) where
  mem := by simp
  obj := fun i h st c hc => by
    obtain ⟨_, ⟨old, he⟩, h1⟩ := st
    have e : c = N + 1 ∨ c = N := by simpa using hc
    rcases e with q | q <;> rw [q]
    · exact ⟨_, he, fun v q => nomatch q⟩
    · exact k1.obj h1
  keep := fun i h h' st q => by
    obtain ⟨l, ⟨old, he⟩, h1⟩ := st
    exact ⟨l, ⟨old, q _ (by simp) _ he⟩, k1.keep h1 (q _ (by simp))⟩
  item := by
    intro X hP hw hK hc i pins s σ H E I hf st hg
    subst hP hw hK
    obtain ⟨l, hen, h1⟩ := st
    obtain ⟨s1, hi⟩ := hg
    obtain ⟨A1, P1, Z1⟩ := zk_draw k1 I s1
    have hh : X.A.in1.handled = none := I.ok.hd hc
    have n1 : N ∉ k1.src := fun m => Nat.lt_irrefl _ (b1 _ m)
    have n2 : N + 1 ∉ N :: k1.src := fun m => by
      rcases List.mem_cons.mp m with e | m
      · exact Nat.succ_ne_self _ e
      · exact Nat.lt_irrefl _ (Nat.lt_trans (Nat.lt_succ_self _) (b1 _ m))
    have W := GoesN.enumFrom (elts := elts) (x1 := kk) (pos := tpos) 0 (Z1.dr X.A.in1 N hh n1) (N + 1) (Nat.succ_ne_self _) n2 List.mem_cons_self
    have hen0 : ∃ old, IsEnum s.heap (N + 1) N (0 + (i : Int)) old := by
      obtain ⟨old, he⟩ := hen
      exact ⟨old, by rw [Int.zero_add]; exact he⟩
    refine wpAny_mono (W.goes i s (fun v s' => ∃ T x x', v = .ref T ∧ H T = none ∧ xs[i]? = some x' ∧ Inv X pins σ (upd H T (.tup [.int (i : Nat), x'])) s' ∧ Etn k1 xs.length (N + 1) N (i + 1) s'.heap ∧ RelV (.ref T) v ∧ s.heap.objs.size ≤ T ∧ RelV x' x) E hi ⟨hen0, h1, Z1.here⟩ ?_) (fun r s' q => ?_) fun _ _ q => q
    · rintro v h' tk ⟨T, t, x, rfl, hT, q1, hP⟩ ⟨⟨old, g1⟩, g2, g3⟩ kp _
      obtain ⟨x', e1, r1⟩ := Z1.yes i x q1
      have hn : H T = none := I.hok.fresh hT
      rw [Int.zero_add] at hP
      refine ⟨T, x, x', rfl, hn, e1, ?_, ⟨hi, ⟨old, by rw [Int.zero_add] at g1; exact g1⟩, g2⟩, rfl, hT, r1⟩
      refine I.turnedNew (t' := tk) (ch := [N + 1, N]) kp hf hT ⟨by show 2 ≤ sizeLine; decide, [.int (i : Nat) t, x], .cons ⟨_, rfl⟩ (.cons r1 .nil), hP⟩
    · obtain ⟨v, rfl, q⟩ := q
      refine ⟨v, rfl, wpAny_mono q (fun _ s2 q => ?_) fun _ _ q => q⟩
      obtain ⟨T, x, x', rfl, hn, e1, J, Z, r, hT, _⟩ := q
      refine ⟨.ref T, _, J, r, ⟨T, x', rfl, hn, rfl, e1⟩, Z, fun b hb => ?_⟩
      have hb' : b < s.heap.objs.size := by
        obtain ⟨old, he⟩ := hen
        have e : b = N + 1 ∨ b = N := by simpa using hb
        rcases e with q | q <;> rw [q]
        · exact Heap.lt_size he
        · obtain ⟨o, ho, _⟩ := k1.obj h1; exact Heap.lt_size ho
      rw [upd_ne (Nat.ne_of_lt (Nat.lt_of_lt_of_le hb' hT))]
      exact (hf b hb).1
  done := by
    intro X hP hw hK hc i pins s σ H E I hf st hg
    subst hP hw hK
    obtain ⟨l, hen, h1⟩ := st
    obtain ⟨s1, hi⟩ := hg
    have e : i = xs.length := Nat.le_antisymm l hi
    subst e
    obtain ⟨A1, P1, Z1⟩ := zk_draw k1 I s1
    have hh : X.A.in1.handled = none := I.ok.hd hc
    have n1 : N ∉ k1.src := fun m => Nat.lt_irrefl _ (b1 _ m)
    have n2 : N + 1 ∉ N :: k1.src := fun m => by
      rcases List.mem_cons.mp m with e | m
      · exact Nat.succ_ne_self _ e
      · exact Nat.lt_irrefl _ (Nat.lt_trans (Nat.lt_succ_self _) (b1 _ m))
    have W := GoesN.enumFrom (elts := elts) (x1 := kk) (pos := tpos) 0 (Z1.dr X.A.in1 N hh n1) (N + 1) (Nat.succ_ne_self _) n2 List.mem_cons_self
    have hen0 : ∃ old, IsEnum s.heap (N + 1) N (0 + (xs.length : Int)) old := by
      obtain ⟨old, he⟩ := hen
      exact ⟨old, by rw [Int.zero_add]; exact he⟩
    refine W.stops s (Inv X pins σ H) E ⟨hen0, h1, Z1.here⟩ fun h' tk kp _ => ?_
    exact I.turnedL (t' := tk) (ch := [N + 1, N]) (fun b o hb q => kp b o hb q) hf
  self := fun A i s Q E st h => by
    obtain ⟨_, ⟨old, he⟩, _⟩ := st
    exact wpAny_pyIter_enum he h
def iEnumZ (K : PySem.W.Frag) (ta : TA) : TI := fun σ H R => ta σ H fun vs H1 => ∃ xs x S1, vs = [x] ∧ Zq K H1 x xs S1 ∧ R (ItN S1 xs) H1
theorem pi_enumZ {X : Cx} {e : Expr} {ta : TA} {p pos tpos : Pos} {elts : List Expr} {kk : Nat} (hg : Gl X "enumerate") (hm : X.mg "enumerate" = none) (ha : PA X [e] ta) (hs : starEach [e] X.env = [(false, eval e X.env)] := by rfl) :
    PI X (.Tuple elts kk tpos) (.Call (.Name "enumerate" p) [e] [] pos) (iEnumZ X.K ta) := by
  refine ⟨fun pins s σ H R I h => ?_⟩
  refine Call_ (ld_blt I hg hm boot_enumerate (PyProof.Rows.callWith_type1 (thn (ha.run pos pins s σ H _ I h) fun us s1 ⟨vs, H1, I1, r1, q1⟩ => ?_) hs rfl))
  obtain ⟨xs, x, S1, ex, a1, q⟩ := q1
  subst ex
  cases r1 with
  | cons r rr =>
    cases rr
    obtain ⟨k1, rfl, b1, rfl⟩ := a1.kind r
    obtain ⟨A1, P1, Z1⟩ := zk_draw k1 I1 b1
    refine enum_begins1 Z1.beg Z1.here fun h' he hit hsz hk => wpAny_pyIter_enum he ?_
    have I2 : Inv X pins σ H1 { s1 with heap := h' } := I1.kept (t' := s1.toks) hk
    refine ⟨s1.heap.objs.size + 1, [s1.heap.objs.size + 1, s1.heap.objs.size], _, _, H1, rfl, I2, turn_enumZ (k1 := k1) Z1.low, ⟨Nat.zero_le _, ⟨_, he⟩, k1.start hit⟩, fun c hcm => ?_, q⟩
    have hle : s1.heap.objs.size ≤ c := by
      have e' : c = s1.heap.objs.size + 1 ∨ c = s1.heap.objs.size := by simpa using hcm
      rcases e' with z | z <;> rw [z] <;> first | exact Nat.le_refl _ | exact Nat.le_add_right _ _
    exact I1.fpOk hle (I1.hok.fresh hle)
section
variable {c : Stat}
def enumD : Nat → List D → List D
  | _, [] => []
  | n, d :: r => .tup [.int n, d] :: enumD (n + 1) r
def dEnum : List D → Option (List D)
  | [x] => (dSeq x).map fun xs => enumD 0 xs
  | _ => none
theorem enumD_get : ∀ (xs : List D) (n i : Nat), (enumD n xs)[i]? = (xs[i]?).map fun d => D.tup [.int ((n + i : Nat) : Int), d]
  | [], _, _ => by simp [enumD]
  | d :: r, n, 0 => by simp [enumD]
  | d :: r, n, i + 1 => by
    unfold enumD
    rw [List.getElem?_cons_succ, List.getElem?_cons_succ, enumD_get r (n + 1) i, show n + 1 + i = n + (i + 1) by omega]
theorem enumD_length : ∀ (xs : List D) (n : Nat), (enumD n xs).length = xs.length
  | [], _ => rfl
  | d :: r, n => by unfold enumD; simp [enumD_length r (n + 1)]
theorem walks_enum {F H : Hp} {x : V} {xs : List V} {ds : List D} {S1 : Hp → Prop} (a : Zw c F H x xs ds S1) : Walks c F (ItN S1 xs) (enumD 0 ds) := by
  intro i F1 H1 s1 s2
  have l1 := a.dn.length
  have hl : (enumD 0 ds).length = xs.length := by rw [enumD_length, l1]
  refine ⟨fun d hd => ?_, fun h => ⟨a.st F1 H1 s1 s2, by rw [hl] at h; exact h⟩, by rw [enumD_length]; exact a.lz⟩
  have hi : i < xs.length := by rw [← hl]; exact (List.getElem?_eq_some_iff.mp hd).1
  refine ⟨⟨a.st F1 H1 s1 s2, hi⟩, fun v H2 q => ?_⟩
  obtain ⟨T, x, rfl, hT, rfl, e1⟩ := q
  obtain ⟨dx, f1, r1⟩ := a.dn.getV e1
  have ed : d = .tup [.int (i : Nat), dx] := by
    rw [enumD_get, f1] at hd
    simpa using hd.symm
  subst ed
  have fT : F1 T = none := s2.free hT
  have sF : Same F1 (upd F1 T (.tup [.int (i : Nat), x])) := fun b o qb => by
    rw [upd_ne (fun e => by rw [e, fT] at qb; cases qb)]; exact qb
  refine ⟨upd F1 T (.tup [.int (i : Nat), x]), ⟨sF, fun b o qb => ?_, fun b o qb => ?_, fun b hb => ?_⟩, .tup (.inl (.inl upd_same)) (.cons (.int _) (.cons ((r1.mono s1).mono sF) .nil)) (by simp [sz])⟩
  · by_cases e : b = T
    · subst e; rw [upd_same] at qb ⊢; exact qb
    · rw [upd_ne e] at qb ⊢; exact s2 b o qb
  · rw [upd_ne (fun e => by rw [e, hT] at qb; cases qb)]; exact qb
  · exact upd_ne fun e => hb (by rw [e]; exact hT)
theorem ei_enum {e : Expr} {f : M (List D)} {p pos tpos : Pos} {elts : List Expr} {kk : Nat} (hm : c.mg "enumerate" = none) (ha : EA c [e] f) (hg : c.sc.names.lookup ("enumerate" : Str) = some .globalImplicit := by kernel_rfl)
    (hs : ∀ env, starEach [e] env = [(false, eval e env)] := by intro _; rfl) :
    EI c (.Tuple elts kk tpos) (.Call (.Name "enumerate" p) [e] [] pos) (srcL dEnum f) := fun G X W z => by
  refine pi_imp (pi_enumZ (Gn.gl (c := c) hg z) (by rw [z.mg]; exact hm) (ha G X W z) (hs _)) fun σ H R ⟨F, ρ, r, q⟩ => ?_
  refine tG_bind r q fun F1 H1 ρ1 x dx s1 R1 rx q1 => ?_
  obtain ⟨ds, e, k⟩ := q1.liftS R1
  unfold dEnum at e
  split at e
  case _ d1 =>
    cases rx with
    | cons r1 rr =>
      cases rr
      obtain ⟨xs, e1, e⟩ := Option.map_eq_some_iff.mp e
      cases e
      obtain ⟨vx, S1, w1⟩ := zw_of R1.fh r1 e1
      rw [z.K]
      exact ⟨vx, _, S1, rfl, w1.q, k _ (walks_enum w1)⟩
  case _ => cases e
end
@[simp] theorem dEnum_t (xs : List D) : dEnum [.tup xs] = some (enumD 0 xs) := nrfl rfl
@[simp] theorem dEnum_l (xs : List D) : dEnum [.lst xs] = some (enumD 0 xs) := nrfl rfl
end DL

/-! (*x, ..); what is printed for clauses; errors without a field at the top -/
namespace DL
open PySem PySem.Spec PyProof.Rows L2
section
variable {c : Stat}
def dSeqS : D → Option (List D)
  | .tup xs => some xs
  | .lst xs => some xs
  | _ => none
def argS (f : M D) (g : M (List D)) : M (List D) := bnd f fun x => match dSeqS x with
  | some xs => bnd g fun ys => ret (xs ++ ys)
  | none => fun _ => .bad
theorem ea_star {e : Expr} {es : List Expr} {f : M D} {g : M (List D)} {p : Pos} (ha : ED c e f) (hr : EA c es g) (hs : ∀ env, starEach (.Starred e p :: es) env = (true, eval e env) :: starEach es env := by intro _; rfl) : EA c (.Starred e p :: es) (argS f g) := fun G X W z => by
  refine pa_imp (StX.pa_star (ha G X W z) (hr G X W z) (hs _)) fun σ H Q ⟨F, ρ, R, q⟩ => ?_
  refine tG_bind R q fun F1 H1 ρ1 x dx s1 R1 rx q1 => ?_
  have key : ∀ {a : Addr} {vs : List V} {ds : List D}, (SqT X.K H1 a vs ∨ SqL X.K H1 a vs) → Dns c.K c.mg F1 vs ds → Post (fun F => Dns c.K c.mg F) c G W F1 σ (bnd g (fun ys => ret (ds ++ ys)) ρ1) Q →
      ∃ a' xs, V.ref a = .ref a' ∧ (SqT X.K H1 a' xs ∨ SqL X.K H1 a' xs) ∧ tA c G W g σ H1 (fun vs' H2 => Q (xs ++ vs') H2) := fun {a vs ds} h r q => by
    refine ⟨a, vs, rfl, h, ?_⟩
    exact tG_bind R1 q fun F2 H2 ρ2 ys es s2 R2 ry q2 => q2 _ F2 H2 (Same.refl _) R2 ((r.mono s2).append ry)
  cases rx <;> simp only [dSeqS] at q1 <;> try exact q1.elim
  · rename_i a vs h r l
    exact key (.inl (by rw [z.K]; exact same_t R1.fh h)) r q1
  · rename_i a vs h r l
    exact key (.inr (by rw [z.K]; exact .inl (same_rd R1.fh h))) r q1
@[simp] theorem at_argS (f : M D) (g : M (List D)) (ρ : En) : argS f g ρ = (f ρ).b fun x ρ1 => match dSeqS x with
  | some xs => (g ρ1).b fun ys ρ2 => .ok (xs ++ ys) ρ2
  | none => .bad := by
  unfold argS
  rw [at_bnd]
  congr 1
  funext x ρ1
  cases dSeqS x with
  | none => rfl
  | some xs => simp only [at_bnd]; rfl
end
/-! ### tuples of texts that stand at the top -/
section
variable {c : Stat}
def KTupS (b : Base) (x : Str) (ts : List Cs) : Prop := ∃ a, b.mg x = some (.ref a) ∧ ∃ (o : Obj) (its : Array Value) (n : Nat), b.K.lookup a = some o ∧ o.cls = .type "tuple" ∧ o.data = .seq its n ∧ its.size ≤ sizeLine ∧ Vals (ts.map fun t => V.str (toS t)) its.toList
def okTs (ts : List Cs) : Bool := decide (ts.length ≤ 1000) && ts.all fun t => decide (t.length ≤ 1000) && t.all fun n => Nat.ble n 1114111
theorem dns_strsM {K : PySem.W.Frag} {mg : Str → Option Value} {F : Hp} : ∀ {ts : List Cs}, (∀ t ∈ ts, okS t) → Dns K mg F (ts.map fun t => V.str (toS t)) (ts.map D.str)
  | [], _ => .nil
  | t :: ts, h => .cons (.str t (h t List.mem_cons_self)) (dns_strsM fun u hu => h u (List.mem_cons_of_mem _ hu))
theorem xgtS {x : Str} {ts : List Cs} {pos : Pos} (hm : KTupS c.toBase x ts) (ok : okTs ts = true := by kernel_rfl) (hg : c.sc.names.lookup x = some .globalImplicit := by kernel_rfl) (hd : (x == ("__debug__" : Str)) = false := by kernel_rfl) : ED c (.Name x pos) (cn (.tup (ts.map D.str))) := by
  obtain ⟨a, h, k⟩ := hm
  obtain ⟨o1, o2⟩ := Bool.and_eq_true_iff.mp ok
  have o1 := of_decide_eq_true o1
  have ho : ∀ t ∈ ts, okS t := fun t ht => by
    obtain ⟨p1, p2⟩ := Bool.and_eq_true_iff.mp (List.all_eq_true.mp o2 t ht)
    have p1 := of_decide_eq_true p1
    refine ⟨by rw [sz_val]; omega, fun n hn => ?_⟩
    have := Nat.le_of_ble_eq_true (List.all_eq_true.mp p2 n hn)
    omega
  exact ed_glob (v := .ref a) hg h rfl (fun F => .tup (vs := ts.map fun t => V.str (toS t)) (.inr k) (dns_strsM ho) (by rw [sz_val, List.length_map]; omega)) hd
def isTx (cs : Cs) : Value → Bool
  | .str s _ => decide (s = toS cs)
  | _ => false
def allTx : List Cs → List Value → Bool
  | [], [] => true
  | t :: ts, v :: vs => isTx t v && allTx ts vs
  | _, _ => false
theorem allTx_ok : ∀ {ts : List Cs} {vs : List Value}, allTx ts vs = true → Vals (ts.map fun t => V.str (toS t)) vs
  | [], [], _ => .nil
  | [], _ :: _, h => by cases h
  | _ :: _, [], h => by cases h
  | t :: ts, v :: vs, h => by
    obtain ⟨h1, h2⟩ := Bool.and_eq_true_iff.mp h
    refine .cons ?_ (allTx_ok h2)
    cases v <;> simp only [isTx] at h1 <;> try cases h1
    have := of_decide_eq_true h1
    subst this
    exact ⟨_, rfl⟩
end
def catSn (j : Nat) : List Stmt → List Stmt
  | .Try _ hds _ _ _ :: _ => match hds[j]? with
    | some (.ExceptHandler _ _ su _) => su
    | none => []
  | _ => []
theorem catN_mk {b : Base} {x : Str} {st : Stmt} {g : Addr} {fd : FuncData} {N : List Str} {a told : Str} {it k : Nat} {q1 q2 q3 q4 pos : Pos} {h₀ : ExceptHandler} {hds : List ExceptHandler} {rest : List Stmt} {cs : List ClR} {mR : M Fl} {tb : ErTab} (F : Fun b.K x x st g fd) (hm : b.mg x = some (.ref g)) (hb : Binds b.K fd [a] []) (S : FnScope N [a] (defScope st))
    (hss : defBody st = .Try [.Assign [.Name told q1] (.Call (.Name a q2) [] [] q3) q4] (h₀ :: hds) [] [] pos :: rest) (CT : CaN b tb (cs.map (·.cl))) (hC : ClsR b k N (defScope st) (h₀ :: hds) cs) (hR : ESs (stOf b N (defScope st) k 1) rest mR)
    (h0 : N[0]? = some a := by kernel_rfl) (h1 : (defScope st).names.lookup a = some .local := by kernel_rfl) (h2 : (a == ("__debug__" : Str)) = false := by kernel_rfl) (h3 : (a == ("__classdict__" : Str)) = false := by kernel_rfl)
    (h4 : N[it]? = some told := by kernel_rfl) (h5 : (defScope st).names.lookup told = some .local := by kernel_rfl) (h6 : Nat.ble 1 it = true := by kernel_rfl) : CatN b k x tb (catO N.length it mR) (catXN N.length cs) :=
  ⟨st, g, fd, N, a, F, hm, F.kp, hb, S, ⟨it, told, q1, q2, q3, q4, pos, h₀, hds, rest, cs, mR, hss, h0, h1, h2, h3, h4, h5, Nat.le_of_ble_eq_true h6, CT, hC, hR, rfl, rfl⟩⟩
theorem top_er0 {K : PySem.W.Frag} {h : Heap} {mg : Str → Option Value} {P : Program} {w : World} {base : Heap} {Ts : List (Addr × Str)} {n B : String} {C : Addr} (bx : BaseX B) (X : K.In h) (G : h.Ns mainGlobals mg) (a : PySem.W.nsIn K mainGlobals (Str.ofString n) = some (some (.ref C)))
    (ei : PySem.W.excIn K C [.type B, .type "Exception", .type "BaseException", .type "object"] (B ++ ".__new__") = true) (kC : PySem.W.keepIn K (.ref C) = true) (exC : PySem.W.subIn K (.ref C) (.type "BaseException") = some true) (tyC : PySem.W.typeIn K (.ref C) = some (.type "type")) :
    ∃ C, Er0T (mkB P w K mg base Ts).K (mkB P w K mg base Ts).mg (Str.ofString n) C := by
  obtain ⟨nw, ini, mr, h1, h2, rfl, rfl⟩ := bx.ex
  exact ⟨C, PySem.W.mg_of X G a, ⟨B, _, ini, _, h1, ei⟩, kC, exC, tyC⟩
end DL

/-! exceptions as data: made, held, asked for their class and their field -/
namespace DL
open PySem PySem.Spec PyProof.Rows L2
section
variable {c : Stat}
theorem inst_exc {X : Cx} {F H : Hp} {pins : List (Addr × Obj)} {σ : L2.St} {s : Shared} {a : Addr} {n : String} {fs : List (String × D)} {mg : Str → Option Value} {K : PySem.W.Frag} (I : Inv X pins σ H s) (h : Dn K mg F (.ref a) (.exc n fs)) (sF : Same F H) :
    ∃ C oe od, mg (Str.ofString n) = some (.ref C) ∧ PySem.W.InstAt s.heap a oe C od ∧ ((fs = [] ∧ od = none) ∨ ∃ (d : Addr) (vs : List (Str × V)) (o : Obj), od = some o ∧ H d = some (.xd vs) ∧ s.heap.get? d = some o ∧ Dfs K mg F vs fs) := by
  cases h with
  | @exc _ C dx _ vs _ g h hd r =>
    have x : ObjOk X.prog X.w H s.heap a (eXo a C dx) := I.hok a _ (sF _ _ h)
    unfold eXo at x
    obtain ⟨oe, ws, e1, ez, e2, e3⟩ := x.1
    have nc : PySem.W.notCls oe := by unfold PySem.W.notCls; rw [e2] <;> trivial
    rcases hd with ⟨rfl, rfl⟩ | ⟨d, rfl, hd⟩
    · cases r
      exact ⟨C, oe, none, g, ⟨e1, ez.1, nc, by rw [ez.2] <;> trivial⟩, .inl ⟨rfl, rfl⟩⟩
    · have hx : ObjOk X.prog X.w H s.heap d (.xd vs) := I.hok d _ (sF _ _ hd)
      obtain ⟨mA, hns, hr⟩ := hx
      obtain ⟨od, ho, hl⟩ := lookIn_ns hns
      exact ⟨C, oe, some od, g, ⟨e1, ez.1, nc, by rw [ez.2]; exact ho⟩, .inr ⟨d, vs, od, rfl, sF _ _ hd, ho, r⟩⟩
def rIsE2 (X : Cx) : List V → Hp → VK → Prop := fun xs H Q => ∃ (a : Addr) (n : String) (fs : List (String × D)) (F : Hp) (C : Addr) (f : Str) (v : V) (cv : Value) (b : Bool), xs = [.ref a, v] ∧ Dn X.K X.mg F (.ref a) (.exc n fs) ∧ Same F H ∧
  X.mg (Str.ofString n) = some (.ref C) ∧ ExcF X.K C f ∧ (∀ u, RelV v u → u = cv) ∧ PySem.W.kitOne X.K (.ref C) cv = some b ∧ Q (.bl b) H
theorem call_isE2 {X : Cx} : CallR X (.builtin "isinstance") (rIsE2 X) := by
  intro pins s σ H xs us Q I r h
  obtain ⟨a, n, fs, F, C, f, v, cv, b, rfl, hd, sF, hC, T, hcv, e, q⟩ := h
  cases r with
  | cons rx rr =>
    cases rr with
    | cons rt rr =>
      cases rr
      cases rx
      have ec := hcv _ rt
      subst ec
      obtain ⟨C', oe, od, h1, J, _⟩ := inst_exc I hd sF
      rw [hC] at h1
      cases h1
      have hcl : (PySem.W.clsIn X.K C).isSome = true := by
        obtain ⟨cd, hc, _⟩ := PySem.W.any_some T.hd
        rw [hc] <;> rfl
      exact PySem.W.kia_one (PySem.W.kitx_exc hcl T.ga T.gg T.sb T.ca T.sp T.tk T.mo) I.kIn J e (fun z => nomatch z) fun tk => ⟨.bl b, H, I.kept (t' := tk) fun _ _ z => z, rfl, q⟩
/-- isinstance(e, class), e an exception -/
def dIsE (tb : ErTab) (own bt : List String) : List D → Option D
  | [.exc n fs, k] => dIsX tb own bt ⟨n, fs⟩ k
  | _ => none
theorem b_isE {tb : ErTab} {own bt : List String} (T : ExT c.toBase tb own bt) : BCl c (.builtin "isinstance") (dIsE tb own bt) := fun X W z => ⟨_, call_isE2, by
  intro F H xs ds d Q s r e a
  unfold dIsE at e
  split at e
  case h_2 => cases e
  rename_i n fs k
  cases r with
  | cons r1 r =>
  cases r with
  | cons r2 r =>
  cases r
  have r1' := r1
  cases r1 with
  | @exc ad C dx _ vs _ g h hd rr =>
  have fin : ∀ {r : String × String × List String} {v : V} {cv : Value} {b : Bool}, r ∈ tb → r.1 = n → (∀ u, RelV v u → u = cv) → PySem.W.kitOne c.K (.ref C) cv = some b → Q (.bl b) H → rIsE2 X [.ref ad, v] H Q := fun {r v cv b} hr he hcv hk hq =>
    ⟨ad, n, fs, F, C, _, v, cv, b, rfl, by rw [z.mg, z.K]; exact r1', s, by rw [z.mg]; exact g, by rw [z.K]; exact T.f r hr C (by rw [he]; exact g), hcv, by rw [z.K]; exact hk, hq⟩
  cases r2 <;> simp only [dIsX] at e <;> try cases e
  · rename_i t
    split at e
    case isFalse => cases e
    rename_i ht
    obtain ⟨r, hr, rfl⟩ := Option.map_eq_some_iff.mp e
    obtain ⟨hr1, hr2⟩ := erOf_some hr
    exact fin hr1 hr2 (cv := .type t) (fun u hu => hu) (T.bt r hr1 t (List.contains_iff_mem.mp ht) C (by rw [hr2]; exact g)) (a.here s (.bl _))
  · rename_i t a' hT
    split at e
    case isFalse => cases e
    rename_i ht
    obtain ⟨r, hr, rfl⟩ := Option.map_eq_some_iff.mp e
    obtain ⟨hr1, hr2⟩ := erOf_some hr
    exact fin hr1 hr2 (cv := .ref a') (fun u hu => hu) (T.ow r hr1 t (List.contains_iff_mem.mp ht) C a' (by rw [hr2]; exact g) hT) (a.here s (.bl _))⟩
/-- e.f, e an exception -/
def dFldE (tb : ErTab) (f : String) : D → Option D
  | .exc n fs => dFldX tb f ⟨n, fs⟩
  | _ => none
theorem ed_fldE {tb : ErTab} {own bt : List String} {e : Expr} {m : M D} {f : String} {pos : Pos} (T : ExT c.toBase tb own bt) (he : ED c e m) (hb : ∀ env, attributeBase e (Str.ofString f) env (eval e env) = eval e env := by intro _; rfl) : ED c (.Attribute e (Str.ofString f) pos) (bnd m fun d => lift (dFldE tb f d)) := fun G X W z => by
  refine ⟨fun pins s σ H Q I ⟨F, ρ, R, q⟩ => ?_⟩
  refine attr_of (hb _) (thn ((he G X W z).run pins s σ H (fun v H1 => ∃ F1 ρ1 d, Rel c.K c.mg c.xt G F1 H1 σ ρ1 ∧ Dn c.K c.mg F1 v d ∧ Post (Dn c.K c.mg) c G W F1 σ (lift (dFldE tb f d) ρ1) Q) I ⟨F, ρ, R, ?_⟩) fun u s1 hh => ?_)
  · unfold bnd at q
    cases em : m ρ with
    | bad => rw [em] at q; exact q.elim
    | err x r => rw [em] at q; exact q
    | ok d r =>
      rw [em] at q
      intro v F1 H1 sF R1 rv
      exact ⟨F1, r, d, R1, rv, q.mono sF⟩
  · obtain ⟨v, H1, I1, rx, F1, ρ1, d, R1, rv, q1⟩ := hh
    obtain ⟨d', e1, af⟩ := q1.lift R1
    unfold dFldE at e1
    split at e1
    case h_2 => cases e1
    rename_i n fs
    obtain ⟨r, hr, e2⟩ := Option.bind_eq_some_iff.mp e1
    obtain ⟨hr1, hr2⟩ := erOf_some hr
    split at e2
    case isFalse => cases e2
    rename_i hf
    cases rv with
    | @exc ad C dx _ vs _ g h hd rr =>
    obtain rfl : u = Value.ref ad := rx
    have T1 : ExcF X.K C (Str.ofString f) := by
      rw [z.K, ← hf]; exact T.f r hr1 C (by rw [hr2]; exact g)
    have x : ObjOk X.prog X.w H1 s1.heap ad (eXo ad C dx) := I1.hok ad _ (R1.fh _ _ h)
    unfold eXo at x
    obtain ⟨oe, ws, p1, pz, p2, p3⟩ := x.1
    have nc : PySem.W.notCls oe := by unfold PySem.W.notCls; rw [p2] <;> trivial
    rcases hd with ⟨rfl, rfl⟩ | ⟨dd, rfl, hd⟩
    · cases rr
      cases e2
    obtain ⟨w', l, rw'⟩ := dfs_look rr e2
    have hx : ObjOk X.prog X.w H1 s1.heap dd (.xd vs) := I1.hok dd _ (R1.fh _ _ hd)
    obtain ⟨mA, hns, hrr⟩ := hx
    obtain ⟨od, ho, hl⟩ := lookIn_ns hns
    obtain ⟨u', hu, ru⟩ := RelO.some_of (v := w') (o := mA (Str.ofString f)) (by rw [← l]; exact hrr _)
    have J : PySem.W.InstAt s1.heap ad oe C (some od) := ⟨p1, pz.1, nc, by rw [pz.2]; exact ho⟩
    exact HandSPX.exc_get I1.kIn J T1.ga T1.gg T1.sb (PySem.W.findObj_own T1.hd T1.no rfl (by rw [hl, hu])) (handed_of ru) ⟨w', H1, I1.tok _, ru, af.here R1.fh rw'⟩
/-! ### made -/
def tErV (C : Addr) (f : Str) (ta : TE) : TE := fun σ H Q => ta σ H fun v H1 => ∀ d e, H1 d = none → H1 e = none → d ≠ e → Q (.ref e) (upd (upd H1 d (.xd [(f, v)])) e (eXo e C (some d)))
theorem made_inv {X : Cx} {C d e : Addr} {f : Str} {pins : List (Addr × Obj)} {σ : L2.St} {H1 : Hp} {hp h' : Heap} {g : Array GenState} {dr : Drawn} {tk tk' : Nat} {os : OsState} {v : V} {u : Value} (I1 : Inv X pins σ H1 ⟨hp, g, dr, tk, os⟩) (M : ErMade hp h' e C d f u) (rv : RelV v u) :
    Inv X pins σ (upd (upd H1 d (.xd [(f, v)])) e (eXo e C (some d))) ⟨h', g, dr, tk', os⟩ := by
  obtain ⟨oe, fv, hoe, hc, hd, hdat, h1⟩ := M.obj
  have hns := M.ns
  obtain ⟨G', g1, g2⟩ := restrict h' fun b => decide (b ≠ e)
  have gk : ∀ b, b ≠ e → G'.get? b = h'.get? b := fun b hb => g1 b (decide_eq_true hb)
  have ge : G'.get? e = none := g2 e (by simp)
  have old : ∀ b o, hp.get? b = some o → G'.get? b = some o := fun b o q => (gk b (Nat.ne_of_lt (Nat.lt_of_lt_of_le (Heap.lt_size q) M.new))).trans (M.keep b o q)
  have ob : ObjOk X.prog X.w (upd H1 d (.xd [(f, v)])) G' d (.xd [(f, v)]) := ⟨_, hns.at (fun o q => (gk d M.dne).trans q), fun y => er_rel rv y⟩
  have J : Inv X pins σ (upd H1 d (.xd [(f, v)])) ⟨G', g, dr, tk', os⟩ := I1.laid (t' := tk') old M.dbig ob
  have hn : upd H1 d (.xd [(f, v)]) e = none := by rw [upd_ne (Ne.symm M.dne)]; exact I1.hok.fresh M.new
  have k2 : ∀ b o, G'.get? b = some o → h'.get? b = some o := fun b o q => by
    by_cases hb : b = e
    · rw [hb, ge] at q; cases q
    · exact (gk b hb).symm.trans q
  have ob2 : ObjOk X.prog X.w (upd (upd H1 d (.xd [(f, v)])) e (eXo e C (some d))) h' e (eXo e C (some d)) := by
    unfold eXo
    exact ⟨⟨oe, fv, hoe, ⟨hc, hd⟩, hdat, h1⟩, ⟨oe, hoe⟩, fun h1 h2 ⟨o, w, a1, a2, a3, a4⟩ k => ⟨o, w, k o a1, a2, a3, a4⟩⟩
  exact J.laidN (t' := tk') k2 ge hn ob2
theorem pe_er {X : Cx} {C fI : Addr} {n f : Str} {a : Expr} {ta : TE} {p pos : Pos} (T : ErrT X.K X.mg n f C fI) (room : X.A.depth + 1 < recursionLimit) (ha : PE X a ta) (hg : Gl X n) (hnd : (n == ("__debug__" : Str)) = false)
    (he : starEach [a] X.env = (false, eval a X.env) :: starEach [] X.env) : PE X (.Call (.Name n p) [a] [] pos) (tErV C f ta) := by
  refine ⟨fun pins s σ H Q I h => ?_⟩
  refine wpAny_Call_Name_kw (ld_glob I hg T.gC ?_ hnd)
  refine PySem.W.callWith_K (h₀ := X.base) I.ok.mod.kin T.kC ?_ he (by rfl)
  rw [he]
  show wpAny _ _ (spliced ((false, eval a X.env) :: backTo pos (starEach [] X.env))) _ _ s
  refine Calls.spliced_cons (thn (ha.run pins s σ H _ I h) fun u s1 hh => Calls.spliced_nil ?_)
  obtain ⟨v, H1, I1, rv, q1⟩ := hh
  refine ⟨I1.kIn, ?_⟩
  show wpAny _ _ (call (.ref C) [u]) _ _ _
  have lim := I1.nolimit
  obtain ⟨hp, g, dr, tk, os⟩ := s1
  refine wpAny_call (er_made T I1.kIn lim room fun h' tk' e d M => ?_)
  exact ⟨.ref e, _, made_inv I1 M rv, rfl, q1 d e (I1.hok.fresh M.dbig) (I1.hok.fresh M.new) M.dne⟩
/-- n(a), an error of the class n with the one field f -/
def mkE (n f : String) (m : M D) : M D := bnd m fun d ρ => .ok (.exc n [(f, d)]) ρ
theorem ed_mkE {n f : String} {C fI : Addr} {a : Expr} {m : M D} {p pos : Pos} (T : ErrT c.K c.mg (Str.ofString n) (Str.ofString f) C fI) (ha : ED c a m)
    (hg : c.sc.names.lookup (Str.ofString n) = some .globalImplicit := by kernel_rfl) (hnd : (Str.ofString n == ("__debug__" : Str)) = false := by decide) (na : ∀ env, starEach [a] env = (false, eval a env) :: starEach [] env := by intro _; rfl)
    (hk : 1 ≤ c.k := by decide) :
    ED c (.Call (.Name (Str.ofString n) p) [a] [] pos) (mkE n f m) := fun G X W z => by
  have T' : ErrT X.K X.mg (Str.ofString n) (Str.ofString f) C fI := by rw [z.K, z.mg]; exact T
  refine pe_imp (pe_er T' (by have := z.room.dp; omega) (ha G X W z) (Gn.gl (c := c) hg z) hnd (na _)) fun σ H Q ⟨F, ρ, R, q⟩ => ?_
  refine tG_bind R q fun F1 H1 ρ1 v dv s1 R1 rv q1 => ?_
  intro d e hd he hne
  have nF : F1 d = none := R1.fh.free hd
  have sF : Same F1 (upd F1 d (.xd [(Str.ofString f, v)])) := fun x u q => by rw [upd_ne (ne_of_none q nF)]; exact q
  have R2 := R1.ext (Ext.new (o := .xd [(Str.ofString f, v)]) R1.fh hd)
  have he2 : upd H1 d (.xd [(Str.ofString f, v)]) e = none := by rw [upd_ne (Ne.symm hne)]; exact he
  have nF2 := R2.fh.free he2
  have sF2 : Same (upd F1 d (.xd [(Str.ofString f, v)])) (upd (upd F1 d (.xd [(Str.ofString f, v)])) e (eXo e C (some d))) := fun x u q => by rw [upd_ne (ne_of_none q nF2)]; exact q
  have R3 := R2.ext (Ext.new (o := eXo e C (some d)) R2.fh he2)
  exact q1 _ _ _ (sF.trans sF2) R3 (.exc T.gC upd_same (.inr ⟨d, rfl, by rw [upd_ne hne]; exact upd_same⟩) (.cons (rv.mono (sF.trans sF2)) .nil))
end
end DL

/-! an exception made by name, and one made of nothing, as values -/
namespace DL
section
open PySem PySem.Builtin PySem.Builtin.ObjectAttr
open PySem.HandSPX (excO)
section
variable {M : Model} {A : Around} {E : Value → Shared → Prop} {h : Heap} {g : Array GenState} {d : Drawn} {t : Nat} {os : OsState}
variable {nm q : Str} {C N : Addr} {bs bm bmB : List Value} {hdct : Bool} {sn : List Str} {sub : List Value} {ab : Bool} {col : Option Bool} {dd : Option Addr} {k0 k1 k2 k3 k5 : Option Value} {B newId initId : String}
theorem ekw_new (F : ExcBaseFacts B newId initId bmB) (hT : ∀ X : String, bm.contains (.type X) = bmB.contains (.type X)) {rest : List Value} {kw : List (Str × Value)} {Q : Unit → Shared → Prop}
    (hC : h.get? C = some (excClassObj nm q C N bs bm hdct sn sub ab col dd k0 k1 k2 k3 k5 newId)) (hq : Q () ⟨h, g, d, t, os⟩) : wpAny M A (checkBuiltinCall newId ⟨.ref C :: rest, kw⟩) Q E ⟨h, g, d, t, os⟩ := by
  have hcont : (Value.ref C :: bm).contains (.type B) = true := by rw [List.contains_cons, hT, F.hasB, Bool.or_true]
  have hstar := F.noStar
  simp only [checkBuiltinCall, F.newKind, F.newSplit, F.newRow]
  repeat (first | refine wpAny_loadPart_at hC ?_ | (refine wpAny_isSubtype_exc hC ?_; rw [hcont]) | refine wpAny_staticBase_exc hC ?_ | refine wpAny_madeBy_exc hC ?_ | simp only [bne_self_eq_false, Bool.false_eq_true, if_false] | wp_step)
  exact hq
theorem ekw_tc {rest : List Value} {kw : List (Str × Value)} {Q : Unit → Shared → Prop} (hC : h.get? C = some (excClassObj nm q C N bs bm hdct sn sub ab col dd k0 k1 k2 k3 k5 newId))
    (hq : Q () ⟨h, g, d, t, os⟩) : wpAny M A (checkBuiltinCall "type.__call__" ⟨.ref C :: rest, kw⟩) Q E ⟨h, g, d, t, os⟩ := by
  have f3 := tc_sub
  have hT : (⟨h, g, d, t, os⟩ : Shared).TypeIs (.ref C) "type" := ⟨_, hC, rfl⟩
  simp only [checkBuiltinCall, tc_kind, tc_split]
  repeat (any_goals (first | assumption | with_reducible refine wpAny_loadPart_at hC ?_ | with_reducible refine wpAny_onRaise ?_ | with_reducible refine wpAny_map ?_ | wp_step))
end
section
variable {prog : Program} {w : World} {A : Around} {E : Value → Shared → Prop} {R : Result → Shared → Prop} {h : Heap} {g : Array GenState} {d : Drawn} {t : Nat} {os : OsState}
variable {nm q : Str} {C N : Addr} {bs bm bmB : List Value} {hdct : Bool} {sn : List Str} {sub : List Value} {ab : Bool} {col : Option Bool} {dd : Option Addr} {k0 k1 k2 k3 k5 : Option Value} {B newId initId : String}
theorem ekw_made (F : ExcBaseFacts B newId initId bmB) (hT : ∀ X : String, bm.contains (.type X) = bmB.contains (.type X)) {rest : List Value} {kw : List (Str × Value)}
    (hC : h.get? C = some (excClassObj nm q C N bs bm hdct sn sub ab col dd k0 k1 k2 k3 k5 newId))
    (hq : R (.ok (.ret (.ref (h.objs.size + 1)))) ⟨(h.push { cls := .type "tuple", data := .seq rest.toArray }).push
      { cls := .ref C, data := .fields #[.ref h.objs.size, .none, .none, .none, .bool false, .none] }, g, d, t, os⟩) (hrest : rest.length ≤ sizeLine) :
    codeAny (model prog w) A (.builtin newId ⟨.ref C :: rest, kw⟩) R ⟨h, g, d, t, os⟩ := by
  have hends := F.ends
  have hcB : (Value.ref C :: bm).contains (.type B) = true := by rw [List.contains_cons, hT, F.hasB, Bool.or_true]
  have hcA : (Value.ref C :: bm).contains (.type "AttributeError") = false := by rw [List.contains_cons, hT, F.noAttr]; rfl
  have hcN : (Value.ref C :: bm).contains (.type "NameError") = false := by rw [List.contains_cons, hT, F.noName]; rfl
  refine codeAny_builtinAt F.entry ?_
  unfold Builtin.«BaseException.__new__»
  refine wpAt_bind ?_
  show wpAt _ _ _ (stack >>= _) _ _ _
  refine wpAt_bind (wpAt_stack fun p below => wpAt_of_wpAny ?_)
  wp_walk
  refine wpAt_of_wpAny ?_
  rw [F.owner]
  repeat (first | with_reducible refine wpAny_madeHere_exc F.canon hC ?_ | with_reducible refine wpAny_loadPart_at hC ?_ | (with_reducible refine wpAny_isSubtype_exc hC ?_; first | rw [hcB] | rw [hcA] | rw [hcN]) | wp_step)
  show R _ _
  rw [Heap.size_push]
  exact hq
theorem ekw_type (F : ExcBaseFacts B newId initId bmB) (hT : ∀ X : String, bm.contains (.type X) = bmB.contains (.type X)) {rest : List Value} {kw : List (Str × Value)} {fI : Addr} {Q : PySem.Fin → Shared → Prop}
    (hC : h.get? C = some (excClassObj nm q C N bs bm hdct sn sub ab col dd k0 k1 k2 k3 k5 newId))
    (hi : W.Looks (model prog w) h (typeLookup (.ref C) "__init__") (some (.ref fI))) (hb : ∀ self, W.Looks (model prog w) h (bindSpecial (.ref fI) self) (.ref fI, [self])) (hrest : rest.length ≤ sizeLine)
    (hq : codeAny (model prog w) A (.call (.ref fI) ⟨.ref (h.objs.size + 1) :: rest, kw⟩)
      (fun r s' => match r with | .ok (.ret v) => v = .none ∧ Q (.done (.ret (.ref (h.objs.size + 1)))) s' | .ok _ => False | .error e => E e s')
      ⟨(h.push (W.kdv_tup rest)).push (excO C h.objs.size), g, d, t, os⟩) :
    wpAny (model prog w) A (Builtin.«type.__call__» ⟨.ref C :: rest, kw⟩) Q E ⟨h, g, d, t, os⟩ := by
  repeat (first | with_reducible refine wpAny_loadPart_at hC ?_ | with_reducible refine wpAny_madeBy_exc hC ?_ | wp_step)
  refine codeAny_call_builtin_code (Code.quiet_builtin _ F.quiet) (ekw_new F hT hC ?_)
  refine ekw_made F hT hC ?_ hrest
  show wpAny _ _ _ _ _ _
  have k : ∀ b o, h.get? b = some o → ((h.push (W.kdv_tup rest)).push (excO C h.objs.size)).get? b = some o := fun b o e => Heap.get?_push_of_some _ (Heap.get?_push_of_some _ e)
  have hC₁ := k _ _ hC
  have hget : ((h.push (W.kdv_tup rest)).push (excO C h.objs.size)).get? (h.objs.size + 1) = some (excO C h.objs.size) := by heap_get
  have hcC : (Value.ref C :: bm).contains (.ref C) = true := by simp
  have i1 := hi.keeps k
  have b1 := (hb (.ref (h.objs.size + 1))).keeps k
  unfold isInstance
  repeat (first | with_reducible refine wpAny_loadPart_at hget ?_ | (with_reducible refine wpAny_isSubtype_exc hC₁ ?_; rw [hcC]) | wp_step)
  show wpAny _ _ (typeLookup (.ref C) _) _ _ _
  refine i1.at ?_
  refine wpAny_holding (wpAny_bind (b1.at ?_))
  refine wpAny_bind (wpAny_call (codeAny_mono hq fun r s' z => ?_))
  rcases r with e | (v | _ | _ | _) <;> first | exact z | exact z.elim | skip
  obtain ⟨rfl, z⟩ := z
  first
    | exact wpAny_pure (wpAny_pure z)
    | (wp_walk; exact z)
theorem ekw_call (F : ExcBaseFacts B newId initId bmB) (hT : ∀ X : String, bm.contains (.type X) = bmB.contains (.type X)) {rest : List Value} {kw : List (Str × Value)} {fI : Addr}
    (hC : h.get? C = some (excClassObj nm q C N bs bm hdct sn sub ab col dd k0 k1 k2 k3 k5 newId))
    (hi : W.Looks (model prog w) h (typeLookup (.ref C) "__init__") (some (.ref fI))) (hb : ∀ self, W.Looks (model prog w) h (bindSpecial (.ref fI) self) (.ref fI, [self])) (hrest : rest.length ≤ sizeLine)
    (hq : codeAny (model prog w) (A.under (.builtin "type.__call__" ⟨.ref C :: rest, kw⟩)) (.call (.ref fI) ⟨.ref (h.objs.size + 1) :: rest, kw⟩) (W.InitBack (h.objs.size + 1) R)
      ⟨(h.push (W.kdv_tup rest)).push (excO C h.objs.size), g, d, t, os⟩) :
    codeAny (model prog w) A (.call (.ref C) ⟨rest, kw⟩) R ⟨h, g, d, t, os⟩ := by
  have f1 := tc_lookup
  have f2 := tc_bind (.ref C)
  have hTy : (⟨h, g, d, t, os⟩ : Shared).TypeIs (.ref C) "type" := ⟨_, hC, rfl⟩
  refine codeAny_of_tree ?_
  show wpAny _ _ (callAny (.ref C) _) _ _ _
  repeat (any_goals (first | assumption | with_reducible refine wpAny_loadPart_at hC ?_ | wp_step))
  refine ⟨rfl, ?_⟩
  refine codeAny_call_builtin_at (Code.quiet_builtin _ (by decide +kernel)) entry_typeCall (ekw_tc hC (ekw_type F hT hC hi hb hrest ?_))
  refine codeAny_mono hq fun r s' z => ?_
  rcases r with e | (v | _ | _ | _) <;> exact z
end
end
open PySem PySem.Spec PyProof.Rows L2
open PySem.HandSPX (excO)
section
variable {prog : Program} {w : World} {A : Around} {R : Result → Shared → Prop} {s : Shared} {K : PySem.W.Frag} {mg : Str → Option Value} {C fI : Addr} {n f : Str}
theorem er_initK {x t0 : Addr} {v : Value} (T : ErrT K mg n f C fI) (X : K.In s.heap) (lim : s.heap.NoLimit) (hx : s.heap.get? x = some (excO C t0)) (room : A.depth < recursionLimit)
    (hq : ∀ h' tk dx, (∀ b o, b ≠ x → s.heap.get? b = some o → h'.get? b = some o) → s.heap.objs.size ≤ dx → dx ≠ x →
      h'.get? x = some { cls := .ref C, dict := some dx, data := .fields #[.ref t0, .none, .none, .none, .bool false, .none] } →
      h'.Ns1 dx (fun y => if y = f then some v else none) → R (.ok (.ret .none)) { s with heap := h', toks := tk }) :
    codeAny (model prog w) A (.call (.ref fI) ⟨[.ref x], [(f, v)]⟩) R s := by
  obtain ⟨oc, od, doc, pm, an, cdv, ct, sl, p1, p2, q1, q2, q3, q4, ql, ho, hcd⟩ := T.fn
  have fo := erF_cases T.fo
  refine Att.call_fn (binds := [("self", .ref x), (f, v)]) X lim ho hcd room (BindsTo.of_eq (by rcases fo with rfl | rfl <;> first | rfl | with_unfolding_all rfl)) (by rcases fo with rfl | rfl <;> first | rfl | decide) (fun s1 IC => ?_) rfl rfl rfl
  obtain ⟨h1, tk1, rfl⟩ := IC.toInCall.same
  have k : ∀ b o, s.heap.get? b = some o → h1.get? b = some o := IC.toInCall.keep
  have hn := IC.toInCall.ns
  have X1 : K.In h1 := X.keeps k
  have hx1 := k _ _ hx
  show wpAny _ _ (execs (erB f q1 q2 q3 q4) _) _ _ _
  unfold erB
  refine wpAny_execs_cons (plainObj_wpAny_Assign_Attribute ?_)
  refine er_ld (v := v) hn (by rcases fo with rfl | rfl <;> first | rfl | with_unfolding_all rfl | kernel_rfl) (er_ld (v := .ref x) hn (by rcases fo with rfl | rfl <;> first | rfl | with_unfolding_all rfl | kernel_rfl) ?_ rfl (by rcases fo with rfl | rfl <;> rfl) (by decide)) rfl (by rcases fo with rfl | rfl <;> rfl) (by rcases fo with rfl | rfl <;> decide)
  refine PySem.W.set_plain X1 (ox := excO C t0) (od := none) ⟨hx1, rfl, rfl, trivial⟩ T.sa ?_
  refine er_store T X1 hx1 fun h3 tk3 dx k3 dn dne hx3 hn3 => ?_
  have z : s.heap.objs.size < h1.objs.size := hn.lt
  exact wpAny_execs_nil (hq h3 tk3 dx (fun b o hb e => k3 b o hb (k b o e)) (Nat.le_of_lt (Nat.lt_of_lt_of_le z dn)) dne hx3 hn3)
theorem er_madeK {v : Value} (T : ErrT K mg n f C fI) (X : K.In s.heap) (lim : s.heap.NoLimit) (room : A.depth + 1 < recursionLimit)
    (hq : ∀ h' tk e d, ErMade s.heap h' e C d f v → R (.ok (.ret (.ref e))) { s with heap := h', toks := tk }) :
    codeAny (model prog w) A (.call (.ref C) ⟨[], [(f, v)]⟩) R s := by
  obtain ⟨B, nw, ini, mr, eb, st, ei, eo⟩ := T.bx
  obtain ⟨nm, N, qn, bs, bm, hdct, sn, sub, ab, col, dd, k0, k1, k2, k3, k5, hC, hT⟩ := PySem.W.excInit_of X ei
  obtain ⟨hp, g, dr, tk, os⟩ := s
  have k : ∀ b o, hp.get? b = some o → ((hp.push (PySem.W.kdv_tup [])).push (excO C hp.objs.size)).get? b = some o := fun b o e => Heap.get?_push_of_some _ (Heap.get?_push_of_some _ e)
  have hget : ((hp.push (PySem.W.kdv_tup [])).push (excO C hp.objs.size)).get? (hp.objs.size + 1) = some (excO C hp.objs.size) := by heap_get
  refine ekw_call eb hT hC (PySem.W.looks_findIn X T.iC) (fun self => PySem.W.bind_fn X self T.tC) (by rw [sizeLine_eq]; exact (by decide : 0 ≤ 16777216)) ?_
  refine er_initK (s := ⟨(hp.push (PySem.W.kdv_tup [])).push (excO C hp.objs.size), g, dr, tk, os⟩) T (X.keeps k) (lim.keeps k) hget (by show A.depth + 1 < recursionLimit; exact room) fun h' tk' dx k' dn dne hx hns => ?_
  have old : ∀ b o, hp.get? b = some o → h'.get? b = some o := fun b o e => k' b o (Nat.ne_of_lt (Nat.lt_succ_of_lt (Heap.lt_size e))) (k b o e)
  have z : hp.objs.size + 1 + 1 ≤ dx := by
    have q := dn
    simp only [Heap.size_push] at q
    exact q
  exact ⟨rfl, hq h' tk' (hp.objs.size + 1) dx ⟨old, Nat.le_succ _, ⟨_, _, hx, rfl, rfl, rfl, rfl⟩, Nat.le_trans (Nat.le_trans (Nat.le_succ _) (Nat.le_succ _)) z, dne, hns⟩⟩
end
section
variable {X : Cx} {C fI : Addr} {n f : Str}
theorem pe_erK {a : Expr} {ta : TE} {p pos kpos : Pos} (T : ErrT X.K X.mg n f C fI) (room : X.A.depth + 1 < recursionLimit) (ha : PE X a ta) (hg : Gl X n) (hnd : (n == ("__debug__" : Str)) = false) :
    PE X (.Call (.Name n p) [] [⟨some f, a, kpos⟩] pos) (tErV C f ta) := by
  refine ⟨fun pins s σ H Q I h => ?_⟩
  refine wpAny_Call_Name_kw (ld_glob I hg T.gC ?_ hnd)
  refine PySem.W.callWith_KW0 (h₀ := X.base) I.ok.mod.kin T.kC rfl ?_ rfl
  refine thn ((pk_cons (nm := some f) (kpos := kpos) ha pk_nil).run pos pins s σ H (fun vs H1 => match vs with | [v] => ∀ d e, H1 d = none → H1 e = none → d ≠ e → Q (.ref e) (upd (upd H1 d (.xd [(f, v)])) e (eXo e C (some d))) | _ => False) I h) fun ws s1 hh => ?_
  · obtain ⟨zs, H1, I1, rz, q1⟩ := hh
    split at q1
    case h_2 => exact q1.elim
    cases rz with
    | cons rv rr =>
      cases rr
      refine ⟨I1.kIn, ?_⟩
      show wpAny _ _ (call (.ref C) [] [(f, _)]) _ _ _
      have lim := I1.nolimit
      obtain ⟨hp, g, dr, tk, os⟩ := s1
      refine wpAny_call (er_madeK T I1.kIn lim room fun h' tk' e d M => ?_)
      exact ⟨.ref e, _, made_inv I1 M rv, rfl, q1 d e (I1.hok.fresh M.dbig) (I1.hok.fresh M.new) M.dne⟩
theorem pe_er0 {p pos : Pos} (T : Er0T X.K X.mg n C) (hg : Gl X n) (hdb : (n == ("__debug__" : Str)) = false) : PE X (.Call (.Name n p) [] [] pos) (fun σ H Q => ∀ e, H e = none → Q (.ref e) (upd H e (eXo e C none))) := by
  obtain ⟨B, newId, initId, bmB, F, qx⟩ := T.bx
  refine ⟨fun pins s σ H Q I q1 => ?_⟩
  refine wpAny_Call_Name_kw (ld_glob I hg T.gC ?_ hdb)
  refine PySem.W.callWith_K0 (first := []) I.kIn T.kC ?_
  show wpAny _ _ (call (.ref C) []) _ _ _
  obtain ⟨bm, N, nm, qn, bs, hdct, sn, sub, ab, col, dd, k0, k1, k2, k3, k5, mN, hC, hN, hni, TT⟩ := exc_obj I.kIn qx
  refine wpAny_call_exc_subT F TT hC hN hni (fun h' e hm => ?_) (by rw [sizeLine_eq]; decide)
  obtain ⟨t, he, _, _⟩ := hm.there
  have hn : H e = none := I.hok.gone hm.new
  refine ⟨.ref e, _, ?_, rfl, q1 e hn⟩
  have ob2 : ObjOk X.prog X.w (upd H e (eXo e C none)) h' e (eXo e C none) := by
    unfold eXo
    exact ⟨⟨_, _, he, ⟨rfl, rfl⟩, rfl, rfl⟩, ⟨_, he⟩, fun h1 h2 ⟨o, w, a1, a2, a3, a4⟩ k => ⟨o, w, k o a1, a2, a3, a4⟩⟩
  exact I.laidN hm.keeps hm.new hn ob2
end
section
variable {c : Stat}
/-- n(), an error made of nothing -/
def mkE0 (n : String) : M D := fun ρ => .ok (.exc n []) ρ
theorem ed_mkE0 {n : String} {p pos : Pos} (T : ∃ C, Er0T c.K c.mg (Str.ofString n) C)
    (hg : c.sc.names.lookup (Str.ofString n) = some .globalImplicit := by kernel_rfl) (hnd : (Str.ofString n == ("__debug__" : Str)) = false := by decide) :
    ED c (.Call (.Name (Str.ofString n) p) [] [] pos) (mkE0 n) := fun G X W z => by
  obtain ⟨C, T⟩ := T
  have T' : Er0T X.K X.mg (Str.ofString n) C := by rw [z.K, z.mg]; exact T
  refine pe_imp (pe_er0 T' (Gn.gl (c := c) hg z) hnd) fun σ H Q ⟨F, ρ, R, q⟩ => ?_
  intro e he
  have nF : F e = none := R.fh.free he
  have sF : Same F (upd F e (eXo e C none)) := fun x u q => by rw [upd_ne (ne_of_none q nF)]; exact q
  exact q _ _ _ sF (R.ext (Ext.new (o := eXo e C none) R.fh he)) (.exc T.gC upd_same (.inl ⟨rfl, rfl⟩) .nil)
/-- n(f=a) -/
theorem ed_mkEK {n f : String} {C fI : Addr} {a : Expr} {m : M D} {p pos kpos : Pos} (T : ErrT c.K c.mg (Str.ofString n) (Str.ofString f) C fI) (ha : ED c a m)
    (hg : c.sc.names.lookup (Str.ofString n) = some .globalImplicit := by kernel_rfl) (hnd : (Str.ofString n == ("__debug__" : Str)) = false := by decide)
    (hk : 1 ≤ c.k := by decide) :
    ED c (.Call (.Name (Str.ofString n) p) [] [⟨some (Str.ofString f), a, kpos⟩] pos) (mkE n f m) := fun G X W z => by
  have T' : ErrT X.K X.mg (Str.ofString n) (Str.ofString f) C fI := by rw [z.K, z.mg]; exact T
  refine pe_imp (pe_erK T' (by have := z.room.dp; omega) (ha G X W z) (Gn.gl (c := c) hg z) hnd) fun σ H Q ⟨F, ρ, R, q⟩ => ?_
  refine tG_bind R q fun F1 H1 ρ1 v dv s1 R1 rv q1 => ?_
  intro d e hd he hne
  have nF : F1 d = none := R1.fh.free hd
  have sF : Same F1 (upd F1 d (.xd [(Str.ofString f, v)])) := fun x u q => by rw [upd_ne (ne_of_none q nF)]; exact q
  have R2 := R1.ext (Ext.new (o := .xd [(Str.ofString f, v)]) R1.fh hd)
  have he2 : upd H1 d (.xd [(Str.ofString f, v)]) e = none := by rw [upd_ne (Ne.symm hne)]; exact he
  have nF2 := R2.fh.free he2
  have sF2 : Same (upd F1 d (.xd [(Str.ofString f, v)])) (upd (upd F1 d (.xd [(Str.ofString f, v)])) e (eXo e C (some d))) := fun x u q => by rw [upd_ne (ne_of_none q nF2)]; exact q
  have R3 := R2.ext (Ext.new (o := eXo e C (some d)) R2.fh he2)
  exact q1 _ _ _ (sF.trans sF2) R3 (.exc T.gC upd_same (.inr ⟨d, rfl, by rw [upd_ne hne]; exact upd_same⟩) (.cons (rv.mono (sF.trans sF2)) .nil))
theorem xmkE {n f : String} {a : Expr} {m : M D} {p pos : Pos} (T : ∃ C fI, ErrT c.K c.mg (Str.ofString n) (Str.ofString f) C fI) (ha : ED c a m)
    (hg : c.sc.names.lookup (Str.ofString n) = some .globalImplicit := by kernel_rfl) (hnd : (Str.ofString n == ("__debug__" : Str)) = false := by decide) (na : ∀ env, starEach [a] env = (false, eval a env) :: starEach [] env := by intro _; rfl)
    (hk : Nat.ble 1 c.k = true := by kernel_rfl) : ED c (.Call (.Name (Str.ofString n) p) [a] [] pos) (mkE n f m) := by
  obtain ⟨C, fI, T⟩ := T
  exact ed_mkE T ha hg hnd na (Nat.le_of_ble_eq_true hk)
theorem xmkEK {n f : String} {a : Expr} {m : M D} {p pos kpos : Pos} (T : ∃ C fI, ErrT c.K c.mg (Str.ofString n) (Str.ofString f) C fI) (ha : ED c a m)
    (hg : c.sc.names.lookup (Str.ofString n) = some .globalImplicit := by kernel_rfl) (hnd : (Str.ofString n == ("__debug__" : Str)) = false := by decide)
    (hk : Nat.ble 1 c.k = true := by kernel_rfl) : ED c (.Call (.Name (Str.ofString n) p) [] [⟨some (Str.ofString f), a, kpos⟩] pos) (mkE n f m) := by
  obtain ⟨C, fI, T⟩ := T
  exact ed_mkEK T ha hg hnd (Nat.le_of_ble_eq_true hk)
def fldE (tb : ErTab) (f : String) (m : M D) : M D := bnd m fun d => lift (dFldE tb f d)
theorem xfldE {tb : ErTab} {own bt : List String} {e : Expr} {m : M D} {f : String} {pos : Pos} (T : ExT c.toBase tb own bt) (he : ED c e m) (hb : ∀ env, attributeBase e (Str.ofString f) env (eval e env) = eval e env := by intro _; rfl) : ED c (.Attribute e (Str.ofString f) pos) (fldE tb f m) := ed_fldE T he hb
end
end DL

/-! printed by gen.py: the readings of the defs and their derivations -/
namespace LW
open PySem L2 DL
def top (i : Nat) : Stmt := PySem.Challenge.pw_nevermixed_k01_limits_and_errors.main.body.getD i (.Pass ⟨0, 0, 0, 0⟩)
def isiCls : List String := []
def S_a_0_b_1 : Cs := [97, 32, 48, 10, 98, 32, 49]
abbrev sf_bases : Stmt := top 35
abbrev sf_jar : Stmt := top 32
abbrev sf_sorts : Stmt := top 37
abbrev sf_kept : Stmt := top 40
abbrev sf_dip : Stmt := top 33
abbrev sf_by_word : Stmt := top 39
abbrev sf_by_place : Stmt := top 38
abbrev sf_pick : Stmt := top 34
abbrev sf_odd : Stmt := top 36
abbrev sf_right : Stmt := top 41
abbrev sf_law : Stmt := top 42
def erTb : ErTab := [("NotPossible", "index", ["NotPossible", "ArithmeticError"]), ("WrongName", "index", ["WrongName", "LookupError"]), ("WrongValue", "index", ["WrongValue", "ValueError"]), ("NothingToUndo", "index", ["NothingToUndo", "NotPossible", "ArithmeticError"]), ("InvalidLook", "given", ["InvalidLook", "WrongValue", "ValueError"]), ("InvalidNumber", "given", ["InvalidNumber", "WrongValue", "ValueError"]), ("InvalidRow", "given", ["InvalidRow", "WrongValue", "ValueError"]), ("InvalidText", "given", ["InvalidText", "WrongValue", "ValueError"]), ("InvalidWish", "given", ["InvalidWish", "WrongValue", "ValueError"]), ("InvalidFraction", "given", ["InvalidFraction", "WrongValue", "ValueError"]), ("InvalidSign", "given", ["InvalidSign", "WrongValue", "ValueError"]), ("InvalidLooks", "given", ["InvalidLooks", "WrongValue", "ValueError"]), ("InvalidRows", "index", ["InvalidRows", "WrongValue", "ValueError"]), ("InvalidSigns", "index", ["InvalidSigns", "WrongValue", "ValueError"]), ("NotALine", "given", ["NotALine", "WrongValue", "ValueError"]), ("InvalidCommand", "given", ["InvalidCommand", "WrongValue", "ValueError"]), ("UnknownSign", "given", ["UnknownSign", "WrongName", "LookupError"]), ("InvalidSeen", "index", ["InvalidSeen", "WrongValue", "ValueError"]), ("InvalidPlan", "index", ["InvalidPlan", "WrongValue", "ValueError"]), ("InvalidTable", "index", ["InvalidTable", "WrongValue", "ValueError"]), ("NotLeft", "given", ["NotLeft", "NotPossible", "ArithmeticError"]), ("TooFew", "given", ["TooFew", "NotPossible", "ArithmeticError"]), ("TooMany", "given", ["TooMany", "NotPossible", "ArithmeticError"]), ("TooLong", "given", ["TooLong", "NotPossible", "ArithmeticError"]), ("Broken", "index", ["Broken", "NotPossible", "ArithmeticError"])]
def erOw : List String := ["InvalidNumber", "InvalidRow", "InvalidText", "InvalidSign", "InvalidLooks", "InvalidLook", "InvalidWish", "InvalidFraction", "InvalidCommand", "InvalidRows", "InvalidSigns", "NotALine", "InvalidSeen", "InvalidPlan", "InvalidTable", "TooMany", "TooLong", "UnknownSign", "Broken", "NotLeft", "TooFew", "NothingToUndo", "WrongValue", "WrongName", "NotPossible"]
def erBt : List String := ["ValueError", "LookupError", "ArithmeticError"]
def Nf_bases : List Str := ["_law_e", "_law_found"]
def Pf_bases : List Str := ["_law_e"]
def mf_bases : M Fl := (seqM (asgV 1 1 (owL (argc (andV (opL (dIsE erTb erOw erBt) (argc (v 0) (argc (cn (.gl "WrongValue")) args0))) (opL (dIsE erTb erOw erBt) (argc (v 0) (argc (cn (.ty "ValueError")) args0)))) args0)))
    (seqM (dropM (appO 1 (andV (opL (dIsE erTb erOw erBt) (argc (v 0) (argc (cn (.gl "WrongName")) args0))) (opL (dIsE erTb erOw erBt) (argc (v 0) (argc (cn (.ty "LookupError")) args0))))))
    (frzM 1 (retM (op2 dAdd (v 1) (opL mkL (argc (andV (opL (dIsE erTb erOw erBt) (argc (v 0) (argc (cn (.gl "NotPossible")) args0))) (opL (dIsE erTb erOw erBt) (argc (v 0) (argc (cn (.ty "ArithmeticError")) args0)))) args0)))))))
def gf_bases : List D → OutF := fnM 1 2 [] mf_bases
def Nf_jar : List Str := ["_law_script", "_law_k", "_law_churned", "_law_cell", "_law_own", "_law_digits"]
def Pf_jar : List Str := ["_law_script", "_law_k"]
def b0f_jar : M Fl := wipM [3] (asgM (put 2) (op2 dMod (opL (on1 dInt) (argc (op2 dAdd (op2 dMul (v 2) (cn (.int 733))) (v 3)) args0)) (cn (.int 1000000009))))
def l0f_jar : M Fl := preM [3] (forM (seqS (slM (v 0) (ret none) (opt (cn (.int 4))))) (put 3) b0f_jar)
def mf_jar : M Fl := (seqM (asgM (put 2) (op2 dAdd (op2 dMul (op2 dMul (cn (.int 7369)) (op2 dAdd (v 1) (cn (.int 5)))) (op2 dAdd (v 1) (cn (.int 2)))) (op2 dMul (cn (.int 29)) (opL dLen (argc (v 0) args0)))))
    (seqM l0f_jar
    (seqM (asgM (put 4) (ifE (tbM (op2 dLt (v 1) (opL dLen (argc (v 0) args0)))) (op2 dIx (v 0) (v 1)) (cn (.int 0))))
    (seqM (asgM (put 5) (ifE (orT (tbM (op2 dLt (v 4) (cn (.int 0)))) (tbM (op2 dGe (v 4) (op2 dPow (cn (.int 10)) (cn (.int 18)))))) (opL (on1 dAbs) (argc (v 4) args0)) (cn (.int 0))))
    (retV (owL (argc (v 5) (argc (op2 dMod (opL (on1 dInt) (argc (op2 dAdd (op2 dAdd (op2 dMul (v 2) (cn (.int 8117))) (op2 dMul (v 4) (cn (.int 64013)))) (op2 dMul (cn (.int 105019)) (op2 dAdd (v 1) (cn (.int 1))))) args0)) (cn (.int 2147483563))) (argc (cn (.int 0)) args0)))))))))
def gf_jar : List D → OutF := fnM 2 6 [] mf_jar
def Nf_sorts : List Str := ["_law_e", "_law_found"]
def Pf_sorts : List Str := ["_law_e"]
def mf_sorts : M Fl := (seqM (asgM (put 1) (opL mkL (argc (opL (dIsE erTb erOw erBt) (argc (v 0) (argc (cn (.gl "InvalidText")) args0))) (argc (opL (dIsE erTb erOw erBt) (argc (v 0) (argc (cn (.gl "InvalidRow")) args0))) (argc (opL (dIsE erTb erOw erBt) (argc (v 0) (argc (cn (.gl "InvalidNumber")) args0))) args0)))))
    (seqM (asgM (put 1) (op2 dAdd (v 1) (opL mkL (argc (opL (dIsE erTb erOw erBt) (argc (v 0) (argc (cn (.gl "InvalidLook")) args0))) (argc (opL (dIsE erTb erOw erBt) (argc (v 0) (argc (cn (.gl "InvalidLooks")) args0))) (argc (opL (dIsE erTb erOw erBt) (argc (v 0) (argc (cn (.gl "InvalidSign")) args0))) args0))))))
    (seqM (asgM (put 1) (op2 dAdd (v 1) (opL mkL (argc (opL (dIsE erTb erOw erBt) (argc (v 0) (argc (cn (.gl "InvalidFraction")) args0))) (argc (opL (dIsE erTb erOw erBt) (argc (v 0) (argc (cn (.gl "InvalidWish")) args0))) args0)))))
    (seqM (asgM (put 1) (op2 dAdd (v 1) (opL mkL (argc (opL (dIsE erTb erOw erBt) (argc (v 0) (argc (cn (.gl "InvalidCommand")) args0))) args0))))
    (seqM (asgM (put 1) (op2 dAdd (v 1) (opL mkL (argc (opL (dIsE erTb erOw erBt) (argc (v 0) (argc (cn (.gl "NotALine")) args0))) (argc (opL (dIsE erTb erOw erBt) (argc (v 0) (argc (cn (.gl "InvalidSigns")) args0))) (argc (opL (dIsE erTb erOw erBt) (argc (v 0) (argc (cn (.gl "InvalidRows")) args0))) args0))))))
    (seqM (asgM (put 1) (op2 dAdd (v 1) (opL mkL (argc (opL (dIsE erTb erOw erBt) (argc (v 0) (argc (cn (.gl "InvalidTable")) args0))) (argc (opL (dIsE erTb erOw erBt) (argc (v 0) (argc (cn (.gl "InvalidPlan")) args0))) (argc (opL (dIsE erTb erOw erBt) (argc (v 0) (argc (cn (.gl "InvalidSeen")) args0))) args0))))))
    (seqM (asgM (put 1) (op2 dAdd (v 1) (opL mkL (argc (opL (dIsE erTb erOw erBt) (argc (v 0) (argc (cn (.gl "UnknownSign")) args0))) (argc (opL (dIsE erTb erOw erBt) (argc (v 0) (argc (cn (.gl "TooLong")) args0))) (argc (opL (dIsE erTb erOw erBt) (argc (v 0) (argc (cn (.gl "TooMany")) args0))) args0))))))
    (seqM (asgM (put 1) (op2 dAdd (v 1) (opL mkL (argc (opL (dIsE erTb erOw erBt) (argc (v 0) (argc (cn (.gl "TooFew")) args0))) (argc (opL (dIsE erTb erOw erBt) (argc (v 0) (argc (cn (.gl "NotLeft")) args0))) (argc (opL (dIsE erTb erOw erBt) (argc (v 0) (argc (cn (.gl "Broken")) args0))) args0))))))
    (seqM (asgM (put 1) (op2 dAdd (v 1) (opL mkL (argc (opL (dIsE erTb erOw erBt) (argc (v 0) (argc (cn (.gl "NothingToUndo")) args0))) args0))))
    (retM (v 1)))))))))))
def gf_sorts : List D → OutF := fnM 1 2 [] mf_sorts
def Nf_kept : List Str := ["_law_e", "_law_at"]
def Pf_kept : List Str := ["_law_e", "_law_at"]
def mf_kept : M Fl := (retM (ifE (orT (tbM (chM dLt dLt (cn (.int 9)) (v 1) (cn (.int 15)))) (tbM (op2 dEq (v 1) (cn (.int 20))))) (fldE erTb "index" (v 0)) (fldE erTb "given" (v 0))))
def gf_kept : List D → OutF := fnM 2 2 [] mf_kept
def Nf_dip : List Str := ["_law_jar_here", "_law_wide", "_law_digit", "_law_seed"]
def Pf_dip : List Str := ["_law_jar_here", "_law_wide"]
def mf_dip : M Fl := (seqM (stO 0 (op2 dAdd (ixO 0 (cn (.int 2))) (cn (.int 1))) (cn (.int 2)))
    (seqM (ifM (tbM (op2 dGt (ixO 0 (cn (.int 0))) (cn (.int 0)))) (seqM (asgM (put 2) (op2 dMod (opL (on1 dInt) (argc (ixO 0 (cn (.int 0))) args0)) (v 1)))
    (seqM (stO 0 (op2 dFdv (opL (on1 dInt) (argc (ixO 0 (cn (.int 0))) args0)) (v 1)) (cn (.int 0)))
    (retM (v 2)))) passM)
    (seqM (asgM (put 3) (opL (on1 dInt) (argc (ixO 0 (cn (.int 1))) args0)))
    (seqM (stO 0 (op2 dMod (opL (on1 dInt) (argc (op2 dAdd (op2 dAdd (op2 dMul (v 3) (cn (.int 40692))) (op2 dMul (ixO 0 (cn (.int 2))) (cn (.int 52021)))) (cn (.int 31))) args0)) (cn (.int 2147483399))) (cn (.int 1)))
    (retM (op2 dMod (opL (on1 dInt) (argc (op2 dFdv (ixO 0 (cn (.int 1))) (cn (.int 2048))) args0)) (v 1)))))))
def gf_dip : List D → OutF := fnM 2 4 [0] mf_dip
def Nf_by_word : List Str := ["_law_first", "_law_second", "_law_found"]
def Pf_by_word : List Str := ["_law_first", "_law_second"]
def mf_by_word : M Fl := (seqM (asgM (put 2) (opL mkL (argc (mkE "InvalidText" "given" (v 0)) (argc (mkE "InvalidRow" "given" (v 1)) (argc (mkE "InvalidNumber" "given" (v 0)) args0)))))
    (seqM (asgM (put 2) (op2 dAdd (v 2) (opL mkL (argc (mkE "InvalidLook" "given" (v 1)) (argc (mkE "InvalidLooks" "given" (v 0)) (argc (mkE "InvalidSign" "given" (v 1)) args0))))))
    (seqM (asgM (put 2) (op2 dAdd (v 2) (opL mkL (argc (mkE "InvalidFraction" "given" (v 0)) (argc (mkE "InvalidWish" "given" (v 1)) (argc (mkE "InvalidCommand" "given" (v 0)) args0))))))
    (seqM (asgM (put 2) (op2 dAdd (v 2) (opL mkL (argc (mkE "NotALine" "given" (v 1)) (argc (mkE "InvalidSigns" "index" (v 0)) (argc (mkE "InvalidRows" "index" (v 1)) args0))))))
    (seqM (asgM (put 2) (op2 dAdd (v 2) (opL mkL (argc (mkE "InvalidTable" "index" (v 0)) (argc (mkE "InvalidPlan" "index" (v 1)) (argc (mkE "InvalidSeen" "index" (v 0)) args0))))))
    (seqM (asgM (put 2) (op2 dAdd (v 2) (opL mkL (argc (mkE "UnknownSign" "given" (v 1)) (argc (mkE "TooLong" "given" (v 0)) (argc (mkE "TooMany" "given" (v 1)) args0))))))
    (seqM (asgM (put 2) (op2 dAdd (v 2) (opL mkL (argc (mkE "TooFew" "given" (v 0)) (argc (mkE "NotLeft" "given" (v 1)) (argc (mkE "Broken" "index" (v 0)) args0))))))
    (retM (v 2)))))))))
def gf_by_word : List D → OutF := fnM 2 3 [] mf_by_word
def Nf_by_place : List Str := ["_law_first", "_law_second", "_law_found"]
def Pf_by_place : List Str := ["_law_first", "_law_second"]
def mf_by_place : M Fl := (seqM (asgM (put 2) (opL mkL (argc (mkE "InvalidText" "given" (v 0)) (argc (mkE "InvalidRow" "given" (v 1)) (argc (mkE "InvalidNumber" "given" (v 0)) (argc (mkE "InvalidLook" "given" (v 1)) args0))))))
    (seqM (asgM (put 2) (op2 dAdd (v 2) (opL mkL (argc (mkE "InvalidLooks" "given" (v 0)) (argc (mkE "InvalidSign" "given" (v 1)) (argc (mkE "InvalidFraction" "given" (v 0)) (argc (mkE "InvalidWish" "given" (v 1)) args0)))))))
    (seqM (asgM (put 2) (op2 dAdd (v 2) (opL mkL (argc (mkE "InvalidCommand" "given" (v 0)) (argc (mkE "NotALine" "given" (v 1)) (argc (mkE "InvalidSigns" "index" (v 0)) (argc (mkE "InvalidRows" "index" (v 1)) args0)))))))
    (seqM (asgM (put 2) (op2 dAdd (v 2) (opL mkL (argc (mkE "InvalidTable" "index" (v 0)) (argc (mkE "InvalidPlan" "index" (v 1)) (argc (mkE "InvalidSeen" "index" (v 0)) (argc (mkE "UnknownSign" "given" (v 1)) args0)))))))
    (seqM (asgM (put 2) (op2 dAdd (v 2) (opL mkL (argc (mkE "TooLong" "given" (v 0)) (argc (mkE "TooMany" "given" (v 1)) (argc (mkE "TooFew" "given" (v 0)) (argc (mkE "NotLeft" "given" (v 1)) args0)))))))
    (seqM (asgM (put 2) (op2 dAdd (v 2) (opL mkL (argc (mkE "Broken" "index" (v 0)) args0))))
    (retM (v 2))))))))
def gf_by_place : List D → OutF := fnM 2 3 [] mf_by_place
def Nf_pick : List Str := ["_law_jar_here", "_law_menu", "_law_at"]
def Pf_pick : List Str := ["_law_jar_here", "_law_menu"]
def mf_pick : M Fl := (seqM (asgM (put 2) (calR gf_dip 0 (argc (opL dLen (argc (v 1) args0)) args0)))
    (retM (op2 dIx (v 1) (v 2))))
def gf_pick : List D → OutF := fnM 2 3 [0] mf_pick
def Nf_odd : List Str := ["_law_jar_here", "_law_menu"]
def Pf_odd : List Str := ["_law_jar_here"]
def mf_odd : M Fl := (seqM (asgM (put 1) (opL mkL (argc (cn .non) (argc (cn (.bl true)) (argc (cn (.bl false)) (argc (cn (.int 0)) (argc (cn (.int 1)) (argc (op1 dNeg (cn (.int 1))) (argc (cn (.int 2)) (argc (op2 dPow (cn (.int 10)) (cn (.int 30))) (argc (cn (.str [])) args0)))))))))))
    (seqM (asgM (put 1) (op2 dAdd (v 1) (opL mkL (argc (cn (.str [48])) (argc (cn (.str [97])) (argc (cn (.str [48, 49])) (argc (cn (.str [97, 32, 48])) (argc (opL mkT args0) (argc (opL mkT (argc (cn (.str [97])) args0)) (argc (opL mkT (argc (cn (.str [97])) (argc (cn (.str [48])) args0))) (argc (opL mkL (argc (cn (.str [97])) args0)) (argc (opL mkL args0) args0))))))))))))
    (retM (calR gf_pick 0 (argc (op2 dAdd (v 1) (opL mkL (argc (cn (.dct [])) (argc (cn (.dct [(.s [97], .int 1)])) (argc (opL mkT (argc (cn .non) (argc (cn (.int 0)) args0))) (argc (cn (.str S_a_0_b_1)) (argc (opL mkT (argc (opL mkT (argc (cn (.str [97])) (argc (cn (.str [48])) args0))) args0)) (argc (opL mkT (argc (cn (.str [48])) (argc (cn (.str [48])) args0))) (argc (opL mkL (argc (opL mkL args0) args0)) (argc (opL mkT (argc (opL mkT args0) args0)) (argc (cn (.str [65])) (argc (cn (.str [56])) args0)))))))))))) args0)))))
def gf_odd : List D → OutF := fnM 1 2 [0] mf_odd
def Nf_right : List Str := ["_law_jar_here", "_law_first", "_law_second", "_law_made", "_law_at", "_law_k", "_law_under", "_law_due"]
def Pf_right : List Str := ["_law_jar_here"]
def b0f_right : M Fl := wipM [4, 6, 7] (seqM (ifM (tbM (op2 dNe (cal gf_sorts (argc (op2 dIx (v 3) (v 4)) args0)) (lcM (srcL dRng1 (argc (cn (.int 22)) args0)) [5] (put 5) (ret true) (op2 dEq (v 5) (v 4))))) (retM (cn (.bl false))) passM)
    (seqM (asgM (put 6) (ifE (tbM (op2 dLt (v 4) (cn (.int 15)))) (cn (.int 0)) (ifE (tbM (op2 dEq (v 4) (cn (.int 15)))) (cn (.int 1)) (cn (.int 2)))))
    (seqM (ifM (tbM (op2 dNe (cal gf_bases (argc (op2 dIx (v 3) (v 4)) args0)) (lcM (srcL dRng1 (argc (cn (.int 3)) args0)) [5] (put 5) (ret true) (op2 dEq (v 5) (v 6))))) (retM (cn (.bl false))) passM)
    (seqM (asgM (put 7) (ifE (tbM (op2 dEq (op2 dMod (opL (on1 dInt) (argc (v 4) args0)) (cn (.int 2))) (cn (.int 0)))) (v 1) (v 2)))
    (ifM (andT (tbM (op2 dLt (v 4) (cn (.int 21)))) (tbM (op2 dNe (opL (on1 dRepr2) (argc (cal gf_kept (argc (op2 dIx (v 3) (v 4)) (argc (v 4) args0))) args0)) (opL (on1 dRepr2) (argc (v 7) args0))))) (retM (cn (.bl false))) passM)))))
def l0f_right : M Fl := preM [4, 6, 7] (forM (srcL dRng1 (argc (cn (.int 22)) args0)) (put 4) b0f_right)
def b2f_right : M Fl := wipM [3, 4, 6, 7] (seqM (asgM (put 3) (op2 dAdd (v 3) (opL mkL (argc (mkE0 "NothingToUndo") args0))))
    l0f_right)
def l2f_right : M Fl := preM [3, 4, 6, 7] (forM (seqS (opL mkL (argc (cal gf_by_place (argc (v 1) (argc (v 2) args0))) (argc (cal gf_by_word (argc (v 1) (argc (v 2) args0))) args0)))) (put 3) b2f_right)
def mf_right : M Fl := (seqM (parV 1 1 2 (fzV (calR gf_odd 0 args0)) (fzV (calR gf_odd 0 args0)))
    (seqM l2f_right
    (retM (cn (.bl true)))))
def gf_right : List D → OutF := fnM 1 8 [0] mf_right
def Nf_law : List Str := ["_law_script", "_law_plain_ones", "_law_e", "_law_k"]
def Pf_law : List Str := ["_law_script"]
def mf_law : M Fl := (seqM (ifM (tbM (op2 dNe (opL mkL (argc (cn (.int 6)) (argc (cn (.int 30)) (argc (cn (.int 24)) (argc (cn (.int 64)) (argc (cn (.int 40)) args0)))))) (opL mkL (argc (cn (.int 6)) (argc (cn (.int 30)) (argc (cn (.int 24)) (argc (cn (.int 64)) (argc (cn (.int 40)) args0)))))))) (retM (cn (.bl false))) passM)
    (seqM (asgM (put 1) (opL mkL (argc (mkE0 "WrongValue") (argc (mkE0 "WrongName") (argc (mkE0 "NotPossible") args0)))))
    (seqM (ifM (tbM (op2 dNe (lcM (seqS (v 1)) [2] (put 2) (ret true) (cal gf_bases (argc (v 2) args0))) (opL mkL (argc (opL mkL (argc (cn (.bl true)) (argc (cn (.bl false)) (argc (cn (.bl false)) args0)))) (argc (opL mkL (argc (cn (.bl false)) (argc (cn (.bl true)) (argc (cn (.bl false)) args0)))) (argc (opL mkL (argc (cn (.bl false)) (argc (cn (.bl false)) (argc (cn (.bl true)) args0)))) args0)))))) (retM (cn (.bl false))) passM)
    (retM (opL (on1 dAll) (argc (lcM (srcL dRng1 (argc (opL dMax2 (argc (cn (.int 2)) (argc (opL dMin2 (argc (opL dLen (argc (v 0) args0)) (argc (cn (.int 4)) args0))) args0))) args0)) [3] (put 3) (ret true) (calV gf_right (calO gf_jar (argc (v 0) (argc (v 3) args0))))) args0))))))
def gf_law : List D → OutF := fnM 1 4 [] mf_law
structure Top (b : Base) : Prop where
  b_ArithmeticError : b.mg "ArithmeticError" = none
  b_LookupError : b.mg "LookupError" = none
  b_ValueError : b.mg "ValueError" = none
  b_abs : b.mg "abs" = none
  b_all : b.mg "all" = none
  b_int : b.mg "int" = none
  b_isinstance : b.mg "isinstance" = none
  b_len : b.mg "len" = none
  b_max : b.mg "max" = none
  b_min : b.mg "min" = none
  b_range : b.mg "range" = none
  b_repr : b.mg "repr" = none
  g_MOST_LENGTH : ∃ t, b.mg "MOST_LENGTH" = some (.int 30 t)
  g_MOST_MESSAGES : ∃ t, b.mg "MOST_MESSAGES" = some (.int 24 t)
  g_MOST_ROWS : ∃ t, b.mg "MOST_ROWS" = some (.int 64 t)
  g_MOST_SEEN : ∃ t, b.mg "MOST_SEEN" = some (.int 40 t)
  g_MOST_SIGNS : ∃ t, b.mg "MOST_SIGNS" = some (.int 6 t)
  k_Broken : ∃ C, b.mg (Str.ofString "Broken") = some (.ref C)
  k_InvalidCommand : ∃ C, b.mg (Str.ofString "InvalidCommand") = some (.ref C)
  k_InvalidFraction : ∃ C, b.mg (Str.ofString "InvalidFraction") = some (.ref C)
  k_InvalidLook : ∃ C, b.mg (Str.ofString "InvalidLook") = some (.ref C)
  k_InvalidLooks : ∃ C, b.mg (Str.ofString "InvalidLooks") = some (.ref C)
  k_InvalidNumber : ∃ C, b.mg (Str.ofString "InvalidNumber") = some (.ref C)
  k_InvalidPlan : ∃ C, b.mg (Str.ofString "InvalidPlan") = some (.ref C)
  k_InvalidRow : ∃ C, b.mg (Str.ofString "InvalidRow") = some (.ref C)
  k_InvalidRows : ∃ C, b.mg (Str.ofString "InvalidRows") = some (.ref C)
  k_InvalidSeen : ∃ C, b.mg (Str.ofString "InvalidSeen") = some (.ref C)
  k_InvalidSign : ∃ C, b.mg (Str.ofString "InvalidSign") = some (.ref C)
  k_InvalidSigns : ∃ C, b.mg (Str.ofString "InvalidSigns") = some (.ref C)
  k_InvalidTable : ∃ C, b.mg (Str.ofString "InvalidTable") = some (.ref C)
  k_InvalidText : ∃ C, b.mg (Str.ofString "InvalidText") = some (.ref C)
  k_InvalidWish : ∃ C, b.mg (Str.ofString "InvalidWish") = some (.ref C)
  k_NotALine : ∃ C, b.mg (Str.ofString "NotALine") = some (.ref C)
  k_NotLeft : ∃ C, b.mg (Str.ofString "NotLeft") = some (.ref C)
  k_NotPossible : ∃ C, b.mg (Str.ofString "NotPossible") = some (.ref C)
  k_NothingToUndo : ∃ C, b.mg (Str.ofString "NothingToUndo") = some (.ref C)
  k_TooFew : ∃ C, b.mg (Str.ofString "TooFew") = some (.ref C)
  k_TooLong : ∃ C, b.mg (Str.ofString "TooLong") = some (.ref C)
  k_TooMany : ∃ C, b.mg (Str.ofString "TooMany") = some (.ref C)
  k_UnknownSign : ∃ C, b.mg (Str.ofString "UnknownSign") = some (.ref C)
  k_WrongName : ∃ C, b.mg (Str.ofString "WrongName") = some (.ref C)
  k_WrongValue : ∃ C, b.mg (Str.ofString "WrongValue") = some (.ref C)
  er_NotPossible : ∃ C, Er0T b.K b.mg (Str.ofString "NotPossible") C
  er_WrongName : ∃ C, Er0T b.K b.mg (Str.ofString "WrongName") C
  er_WrongValue : ∃ C, Er0T b.K b.mg (Str.ofString "WrongValue") C
  er_NothingToUndo : ∃ C, Er0T b.K b.mg (Str.ofString "NothingToUndo") C
  er_InvalidLook : ∃ C fI, ErrT b.K b.mg (Str.ofString "InvalidLook") (Str.ofString "given") C fI
  er_InvalidNumber : ∃ C fI, ErrT b.K b.mg (Str.ofString "InvalidNumber") (Str.ofString "given") C fI
  er_InvalidRow : ∃ C fI, ErrT b.K b.mg (Str.ofString "InvalidRow") (Str.ofString "given") C fI
  er_InvalidText : ∃ C fI, ErrT b.K b.mg (Str.ofString "InvalidText") (Str.ofString "given") C fI
  er_InvalidWish : ∃ C fI, ErrT b.K b.mg (Str.ofString "InvalidWish") (Str.ofString "given") C fI
  er_InvalidFraction : ∃ C fI, ErrT b.K b.mg (Str.ofString "InvalidFraction") (Str.ofString "given") C fI
  er_InvalidSign : ∃ C fI, ErrT b.K b.mg (Str.ofString "InvalidSign") (Str.ofString "given") C fI
  er_InvalidLooks : ∃ C fI, ErrT b.K b.mg (Str.ofString "InvalidLooks") (Str.ofString "given") C fI
  er_InvalidRows : ∃ C fI, ErrT b.K b.mg (Str.ofString "InvalidRows") (Str.ofString "index") C fI
  er_InvalidSigns : ∃ C fI, ErrT b.K b.mg (Str.ofString "InvalidSigns") (Str.ofString "index") C fI
  er_NotALine : ∃ C fI, ErrT b.K b.mg (Str.ofString "NotALine") (Str.ofString "given") C fI
  er_InvalidCommand : ∃ C fI, ErrT b.K b.mg (Str.ofString "InvalidCommand") (Str.ofString "given") C fI
  er_UnknownSign : ∃ C fI, ErrT b.K b.mg (Str.ofString "UnknownSign") (Str.ofString "given") C fI
  er_InvalidSeen : ∃ C fI, ErrT b.K b.mg (Str.ofString "InvalidSeen") (Str.ofString "index") C fI
  er_InvalidPlan : ∃ C fI, ErrT b.K b.mg (Str.ofString "InvalidPlan") (Str.ofString "index") C fI
  er_InvalidTable : ∃ C fI, ErrT b.K b.mg (Str.ofString "InvalidTable") (Str.ofString "index") C fI
  er_NotLeft : ∃ C fI, ErrT b.K b.mg (Str.ofString "NotLeft") (Str.ofString "given") C fI
  er_TooFew : ∃ C fI, ErrT b.K b.mg (Str.ofString "TooFew") (Str.ofString "given") C fI
  er_TooMany : ∃ C fI, ErrT b.K b.mg (Str.ofString "TooMany") (Str.ofString "given") C fI
  er_TooLong : ∃ C fI, ErrT b.K b.mg (Str.ofString "TooLong") (Str.ofString "given") C fI
  er_Broken : ∃ C fI, ErrT b.K b.mg (Str.ofString "Broken") (Str.ofString "index") C fI
  ext : ExT b erTb erOw erBt
  tf_bases : ∃ f fd, Fun b.K "_law_bases" "_law_bases" sf_bases f fd ∧ b.mg "_law_bases" = some (.ref f)
  tf_jar : ∃ f fd, Fun b.K "_law_jar" "_law_jar" sf_jar f fd ∧ b.mg "_law_jar" = some (.ref f)
  tf_sorts : ∃ f fd, Fun b.K "_law_sorts" "_law_sorts" sf_sorts f fd ∧ b.mg "_law_sorts" = some (.ref f)
  tf_kept : ∃ f fd, Fun b.K "_law_kept" "_law_kept" sf_kept f fd ∧ b.mg "_law_kept" = some (.ref f)
  tf_dip : ∃ f fd, Fun b.K "_law_dip" "_law_dip" sf_dip f fd ∧ b.mg "_law_dip" = some (.ref f)
  tf_by_word : ∃ f fd, Fun b.K "_law_by_word" "_law_by_word" sf_by_word f fd ∧ b.mg "_law_by_word" = some (.ref f)
  tf_by_place : ∃ f fd, Fun b.K "_law_by_place" "_law_by_place" sf_by_place f fd ∧ b.mg "_law_by_place" = some (.ref f)
  tf_pick : ∃ f fd, Fun b.K "_law_pick" "_law_pick" sf_pick f fd ∧ b.mg "_law_pick" = some (.ref f)
  tf_odd : ∃ f fd, Fun b.K "_law_odd" "_law_odd" sf_odd f fd ∧ b.mg "_law_odd" = some (.ref f)
  tf_right : ∃ f fd, Fun b.K "_law_right" "_law_right" sf_right f fd ∧ b.mg "_law_right" = some (.ref f)
  tf_law : ∃ f fd, Fun b.K "law" "law" sf_law f fd ∧ b.mg "law" = some (.ref f)
section
variable {b : Base}
theorem scf_bases : FnScope Nf_bases Pf_bases (defScope sf_bases) := ⟨rfl, rfl, rfl, by decide +kernel, rfl, by decide +kernel, by decide +kernel⟩
theorem df_bases (T : Top b) : ESs (stOf b Nf_bases (defScope sf_bases) 0 1) (defBody sf_bases) mf_bases :=
  (ess_cons (xsetV 1 (ev_lst (ea_cons (ed_and (xB (b_isE T.ext) T.b_isinstance bt_isinstance (ea_cons (xv 0) (ea_cons (xgc T.k_WrongValue) ea_nil))) (ed_and1 (xB (b_isE T.ext) T.b_isinstance bt_isinstance (ea_cons (xv 0) (ea_cons (xty T.b_ValueError bt_ValueError) ea_nil))))) ea_nil)))
    (ess_cons (es_expr (xappO 1 (ed_and (xB (b_isE T.ext) T.b_isinstance bt_isinstance (ea_cons (xv 0) (ea_cons (xgc T.k_WrongName) ea_nil))) (ed_and1 (xB (b_isE T.ext) T.b_isinstance bt_isinstance (ea_cons (xv 0) (ea_cons (xty T.b_LookupError bt_LookupError) ea_nil)))))))
    (xfrz 1 (ess_one (es_ret (ed_bin b_add (xv 1) (ed_lst (ea_cons (ed_and (xB (b_isE T.ext) T.b_isinstance bt_isinstance (ea_cons (xv 0) (ea_cons (xgc T.k_NotPossible) ea_nil))) (ed_and1 (xB (b_isE T.ext) T.b_isinstance bt_isinstance (ea_cons (xv 0) (ea_cons (xty T.b_ArithmeticError bt_ArithmeticError) ea_nil))))) ea_nil))))))))
theorem calf_bases (T : Top b) : Cal b 1 "_law_bases" [] gf_bases := by
  obtain ⟨f, fd, F, hm⟩ := T.tf_bases
  exact ⟨f, fd, Pf_bases, fn_ok (N := Nf_bases) (ps := Pf_bases) (m := mf_bases) F scf_bases (by decide) (df_bases T), hm, F.kp, (F.binds (ps := Pf_bases) fun _ _ _ _ _ _ us hl => match us, hl with | [_], _ => rfl)⟩
theorem scf_jar : FnScope Nf_jar Pf_jar (defScope sf_jar) := ⟨rfl, rfl, rfl, by decide +kernel, rfl, by decide +kernel, by decide +kernel⟩
theorem df_jar (T : Top b) : ESs (stOf b Nf_jar (defScope sf_jar) 0 2) (defBody sf_jar) mf_jar :=
  (ess_cons (xset 2 (ed_bin b_add (ed_bin b_mul (ed_bin b_mul ed_int (ed_bin b_add (xv 1) ed_int)) (ed_bin b_add (xv 1) ed_int)) (ed_bin b_mul ed_int (xB b_len T.b_len bt_len (ea_cons (xv 0) ea_nil)))))
    (ess_cons (es_pre [3] (es_for (ei_seq (ed_slice (xv 0) eo_none (eo_some ed_int))) (xg 3) (ess_wip [3] (ess_one (xset 2 (ed_bin b_mod (xT b_int T.b_int bt_int (ea_cons (ed_bin b_add (ed_bin b_mul (xv 2) ed_int) (xv 3)) ea_nil)) ed_int))) rfl)) rfl)
    (ess_cons (xset 4 (ed_if (tcmp c_lt (xv 1) (xB b_len T.b_len bt_len (ea_cons (xv 0) ea_nil))) (ed_ix (xv 0) (xv 1)) ed_int))
    (ess_cons (xset 5 (ed_if (EW.et (ew_or (tcmp c_lt (xv 4) ed_int) (ew_or1 (tcmp c_ge (xv 4) (ed_bin b_pow ed_int ed_int))))) (xB b_abs T.b_abs bt_abs (ea_cons (xv 4) ea_nil)) ed_int))
    (ess_one (es_retV (ev_lst (ea_cons (xv 5) (ea_cons (ed_bin b_mod (xT b_int T.b_int bt_int (ea_cons (ed_bin b_add (ed_bin b_add (ed_bin b_mul (xv 2) ed_int) (ed_bin b_mul (xv 4) ed_int)) (ed_bin b_mul ed_int (ed_bin b_add (xv 1) ed_int))) ea_nil)) ed_int) (ea_cons ed_int ea_nil))))))))))
theorem calf_jar (T : Top b) : Cal b 1 "_law_jar" [] gf_jar := by
  obtain ⟨f, fd, F, hm⟩ := T.tf_jar
  exact ⟨f, fd, Pf_jar, fn_ok (N := Nf_jar) (ps := Pf_jar) (m := mf_jar) F scf_jar (by decide) (df_jar T), hm, F.kp, (F.binds (ps := Pf_jar) fun _ _ _ _ _ _ us hl => match us, hl with | [_, _], _ => rfl)⟩
theorem scf_sorts : FnScope Nf_sorts Pf_sorts (defScope sf_sorts) := ⟨rfl, rfl, rfl, by decide +kernel, rfl, by decide +kernel, by decide +kernel⟩
theorem df_sorts (T : Top b) : ESs (stOf b Nf_sorts (defScope sf_sorts) 0 1) (defBody sf_sorts) mf_sorts :=
  (ess_cons (xset 1 (ed_lst (ea_cons (xB (b_isE T.ext) T.b_isinstance bt_isinstance (ea_cons (xv 0) (ea_cons (xgc T.k_InvalidText) ea_nil))) (ea_cons (xB (b_isE T.ext) T.b_isinstance bt_isinstance (ea_cons (xv 0) (ea_cons (xgc T.k_InvalidRow) ea_nil))) (ea_cons (xB (b_isE T.ext) T.b_isinstance bt_isinstance (ea_cons (xv 0) (ea_cons (xgc T.k_InvalidNumber) ea_nil))) ea_nil)))))
    (ess_cons (xset 1 (ed_bin b_add (xv 1) (ed_lst (ea_cons (xB (b_isE T.ext) T.b_isinstance bt_isinstance (ea_cons (xv 0) (ea_cons (xgc T.k_InvalidLook) ea_nil))) (ea_cons (xB (b_isE T.ext) T.b_isinstance bt_isinstance (ea_cons (xv 0) (ea_cons (xgc T.k_InvalidLooks) ea_nil))) (ea_cons (xB (b_isE T.ext) T.b_isinstance bt_isinstance (ea_cons (xv 0) (ea_cons (xgc T.k_InvalidSign) ea_nil))) ea_nil))))))
    (ess_cons (xset 1 (ed_bin b_add (xv 1) (ed_lst (ea_cons (xB (b_isE T.ext) T.b_isinstance bt_isinstance (ea_cons (xv 0) (ea_cons (xgc T.k_InvalidFraction) ea_nil))) (ea_cons (xB (b_isE T.ext) T.b_isinstance bt_isinstance (ea_cons (xv 0) (ea_cons (xgc T.k_InvalidWish) ea_nil))) ea_nil)))))
    (ess_cons (xset 1 (ed_bin b_add (xv 1) (ed_lst (ea_cons (xB (b_isE T.ext) T.b_isinstance bt_isinstance (ea_cons (xv 0) (ea_cons (xgc T.k_InvalidCommand) ea_nil))) ea_nil))))
    (ess_cons (xset 1 (ed_bin b_add (xv 1) (ed_lst (ea_cons (xB (b_isE T.ext) T.b_isinstance bt_isinstance (ea_cons (xv 0) (ea_cons (xgc T.k_NotALine) ea_nil))) (ea_cons (xB (b_isE T.ext) T.b_isinstance bt_isinstance (ea_cons (xv 0) (ea_cons (xgc T.k_InvalidSigns) ea_nil))) (ea_cons (xB (b_isE T.ext) T.b_isinstance bt_isinstance (ea_cons (xv 0) (ea_cons (xgc T.k_InvalidRows) ea_nil))) ea_nil))))))
    (ess_cons (xset 1 (ed_bin b_add (xv 1) (ed_lst (ea_cons (xB (b_isE T.ext) T.b_isinstance bt_isinstance (ea_cons (xv 0) (ea_cons (xgc T.k_InvalidTable) ea_nil))) (ea_cons (xB (b_isE T.ext) T.b_isinstance bt_isinstance (ea_cons (xv 0) (ea_cons (xgc T.k_InvalidPlan) ea_nil))) (ea_cons (xB (b_isE T.ext) T.b_isinstance bt_isinstance (ea_cons (xv 0) (ea_cons (xgc T.k_InvalidSeen) ea_nil))) ea_nil))))))
    (ess_cons (xset 1 (ed_bin b_add (xv 1) (ed_lst (ea_cons (xB (b_isE T.ext) T.b_isinstance bt_isinstance (ea_cons (xv 0) (ea_cons (xgc T.k_UnknownSign) ea_nil))) (ea_cons (xB (b_isE T.ext) T.b_isinstance bt_isinstance (ea_cons (xv 0) (ea_cons (xgc T.k_TooLong) ea_nil))) (ea_cons (xB (b_isE T.ext) T.b_isinstance bt_isinstance (ea_cons (xv 0) (ea_cons (xgc T.k_TooMany) ea_nil))) ea_nil))))))
    (ess_cons (xset 1 (ed_bin b_add (xv 1) (ed_lst (ea_cons (xB (b_isE T.ext) T.b_isinstance bt_isinstance (ea_cons (xv 0) (ea_cons (xgc T.k_TooFew) ea_nil))) (ea_cons (xB (b_isE T.ext) T.b_isinstance bt_isinstance (ea_cons (xv 0) (ea_cons (xgc T.k_NotLeft) ea_nil))) (ea_cons (xB (b_isE T.ext) T.b_isinstance bt_isinstance (ea_cons (xv 0) (ea_cons (xgc T.k_Broken) ea_nil))) ea_nil))))))
    (ess_cons (xset 1 (ed_bin b_add (xv 1) (ed_lst (ea_cons (xB (b_isE T.ext) T.b_isinstance bt_isinstance (ea_cons (xv 0) (ea_cons (xgc T.k_NothingToUndo) ea_nil))) ea_nil))))
    (ess_one (es_ret (xv 1))))))))))))
theorem calf_sorts (T : Top b) : Cal b 1 "_law_sorts" [] gf_sorts := by
  obtain ⟨f, fd, F, hm⟩ := T.tf_sorts
  exact ⟨f, fd, Pf_sorts, fn_ok (N := Nf_sorts) (ps := Pf_sorts) (m := mf_sorts) F scf_sorts (by decide) (df_sorts T), hm, F.kp, (F.binds (ps := Pf_sorts) fun _ _ _ _ _ _ us hl => match us, hl with | [_], _ => rfl)⟩
theorem scf_kept : FnScope Nf_kept Pf_kept (defScope sf_kept) := ⟨rfl, rfl, rfl, by decide +kernel, rfl, by decide +kernel, by decide +kernel⟩
theorem df_kept (T : Top b) : ESs (stOf b Nf_kept (defScope sf_kept) 0 2) (defBody sf_kept) mf_kept :=
  (ess_one (es_ret (ed_if (EW.et (ew_or (et_chain c_lt c_lt ed_int (xv 1) ed_int) (ew_or1 (tcmp c_eq (xv 1) ed_int)))) (xfldE T.ext (xv 0)) (xfldE T.ext (xv 0)))))
theorem calf_kept (T : Top b) : Cal b 1 "_law_kept" [] gf_kept := by
  obtain ⟨f, fd, F, hm⟩ := T.tf_kept
  exact ⟨f, fd, Pf_kept, fn_ok (N := Nf_kept) (ps := Pf_kept) (m := mf_kept) F scf_kept (by decide) (df_kept T), hm, F.kp, (F.binds (ps := Pf_kept) fun _ _ _ _ _ _ us hl => match us, hl with | [_, _], _ => rfl)⟩
theorem scf_dip : FnScope Nf_dip Pf_dip (defScope sf_dip) := ⟨rfl, rfl, rfl, by decide +kernel, rfl, by decide +kernel, by decide +kernel⟩
theorem df_dip (T : Top b) : ESs (stOf b Nf_dip (defScope sf_dip) 0 2) (defBody sf_dip) mf_dip :=
  (ess_cons (xstO 0 (ed_bin b_add (xixO 0 ed_int) ed_int) ed_int)
    (ess_cons (es_if (tcmp c_gt (xixO 0 ed_int) ed_int) (ess_cons (xset 2 (ed_bin b_mod (xT b_int T.b_int bt_int (ea_cons (xixO 0 ed_int) ea_nil)) (xv 1)))
    (ess_cons (xstO 0 (ed_bin b_fdv (xT b_int T.b_int bt_int (ea_cons (xixO 0 ed_int) ea_nil)) (xv 1)) ed_int)
    (ess_one (es_ret (xv 2))))) ess_nil)
    (ess_cons (xset 3 (xT b_int T.b_int bt_int (ea_cons (xixO 0 ed_int) ea_nil)))
    (ess_cons (xstO 0 (ed_bin b_mod (xT b_int T.b_int bt_int (ea_cons (ed_bin b_add (ed_bin b_add (ed_bin b_mul (xv 3) ed_int) (ed_bin b_mul (xixO 0 ed_int) ed_int)) ed_int) ea_nil)) ed_int) ed_int)
    (ess_one (es_ret (ed_bin b_mod (xT b_int T.b_int bt_int (ea_cons (ed_bin b_fdv (xixO 0 ed_int) ed_int) ea_nil)) (xv 1))))))))
theorem calf_dip (T : Top b) : Cal b 1 "_law_dip" [0] gf_dip := by
  obtain ⟨f, fd, F, hm⟩ := T.tf_dip
  exact ⟨f, fd, Pf_dip, fn_ok (N := Nf_dip) (ps := Pf_dip) (m := mf_dip) F scf_dip (by decide) (df_dip T), hm, F.kp, (F.binds (ps := Pf_dip) fun _ _ _ _ _ _ us hl => match us, hl with | [_, _], _ => rfl)⟩
theorem scf_by_word : FnScope Nf_by_word Pf_by_word (defScope sf_by_word) := ⟨rfl, rfl, rfl, by decide +kernel, rfl, by decide +kernel, by decide +kernel⟩
theorem df_by_word (T : Top b) : ESs (stOf b Nf_by_word (defScope sf_by_word) 1 2) (defBody sf_by_word) mf_by_word :=
  (ess_cons (xset 2 (ed_lst (ea_cons (xmkEK T.er_InvalidText (xv 0)) (ea_cons (xmkEK T.er_InvalidRow (xv 1)) (ea_cons (xmkEK T.er_InvalidNumber (xv 0)) ea_nil)))))
    (ess_cons (xset 2 (ed_bin b_add (xv 2) (ed_lst (ea_cons (xmkEK T.er_InvalidLook (xv 1)) (ea_cons (xmkEK T.er_InvalidLooks (xv 0)) (ea_cons (xmkEK T.er_InvalidSign (xv 1)) ea_nil))))))
    (ess_cons (xset 2 (ed_bin b_add (xv 2) (ed_lst (ea_cons (xmkEK T.er_InvalidFraction (xv 0)) (ea_cons (xmkEK T.er_InvalidWish (xv 1)) (ea_cons (xmkEK T.er_InvalidCommand (xv 0)) ea_nil))))))
    (ess_cons (xset 2 (ed_bin b_add (xv 2) (ed_lst (ea_cons (xmkEK T.er_NotALine (xv 1)) (ea_cons (xmkEK T.er_InvalidSigns (xv 0)) (ea_cons (xmkEK T.er_InvalidRows (xv 1)) ea_nil))))))
    (ess_cons (xset 2 (ed_bin b_add (xv 2) (ed_lst (ea_cons (xmkEK T.er_InvalidTable (xv 0)) (ea_cons (xmkEK T.er_InvalidPlan (xv 1)) (ea_cons (xmkEK T.er_InvalidSeen (xv 0)) ea_nil))))))
    (ess_cons (xset 2 (ed_bin b_add (xv 2) (ed_lst (ea_cons (xmkEK T.er_UnknownSign (xv 1)) (ea_cons (xmkEK T.er_TooLong (xv 0)) (ea_cons (xmkEK T.er_TooMany (xv 1)) ea_nil))))))
    (ess_cons (xset 2 (ed_bin b_add (xv 2) (ed_lst (ea_cons (xmkEK T.er_TooFew (xv 0)) (ea_cons (xmkEK T.er_NotLeft (xv 1)) (ea_cons (xmkEK T.er_Broken (xv 0)) ea_nil))))))
    (ess_one (es_ret (xv 2))))))))))
theorem calf_by_word (T : Top b) : Cal b 2 "_law_by_word" [] gf_by_word := by
  obtain ⟨f, fd, F, hm⟩ := T.tf_by_word
  exact ⟨f, fd, Pf_by_word, fn_ok (N := Nf_by_word) (ps := Pf_by_word) (m := mf_by_word) F scf_by_word (by decide) (df_by_word T), hm, F.kp, (F.binds (ps := Pf_by_word) fun _ _ _ _ _ _ us hl => match us, hl with | [_, _], _ => rfl)⟩
theorem scf_by_place : FnScope Nf_by_place Pf_by_place (defScope sf_by_place) := ⟨rfl, rfl, rfl, by decide +kernel, rfl, by decide +kernel, by decide +kernel⟩
theorem df_by_place (T : Top b) : ESs (stOf b Nf_by_place (defScope sf_by_place) 1 2) (defBody sf_by_place) mf_by_place :=
  (ess_cons (xset 2 (ed_lst (ea_cons (xmkE T.er_InvalidText (xv 0)) (ea_cons (xmkE T.er_InvalidRow (xv 1)) (ea_cons (xmkE T.er_InvalidNumber (xv 0)) (ea_cons (xmkE T.er_InvalidLook (xv 1)) ea_nil))))))
    (ess_cons (xset 2 (ed_bin b_add (xv 2) (ed_lst (ea_cons (xmkE T.er_InvalidLooks (xv 0)) (ea_cons (xmkE T.er_InvalidSign (xv 1)) (ea_cons (xmkE T.er_InvalidFraction (xv 0)) (ea_cons (xmkE T.er_InvalidWish (xv 1)) ea_nil)))))))
    (ess_cons (xset 2 (ed_bin b_add (xv 2) (ed_lst (ea_cons (xmkE T.er_InvalidCommand (xv 0)) (ea_cons (xmkE T.er_NotALine (xv 1)) (ea_cons (xmkE T.er_InvalidSigns (xv 0)) (ea_cons (xmkE T.er_InvalidRows (xv 1)) ea_nil)))))))
    (ess_cons (xset 2 (ed_bin b_add (xv 2) (ed_lst (ea_cons (xmkE T.er_InvalidTable (xv 0)) (ea_cons (xmkE T.er_InvalidPlan (xv 1)) (ea_cons (xmkE T.er_InvalidSeen (xv 0)) (ea_cons (xmkE T.er_UnknownSign (xv 1)) ea_nil)))))))
    (ess_cons (xset 2 (ed_bin b_add (xv 2) (ed_lst (ea_cons (xmkE T.er_TooLong (xv 0)) (ea_cons (xmkE T.er_TooMany (xv 1)) (ea_cons (xmkE T.er_TooFew (xv 0)) (ea_cons (xmkE T.er_NotLeft (xv 1)) ea_nil)))))))
    (ess_cons (xset 2 (ed_bin b_add (xv 2) (ed_lst (ea_cons (xmkE T.er_Broken (xv 0)) ea_nil))))
    (ess_one (es_ret (xv 2)))))))))
theorem calf_by_place (T : Top b) : Cal b 2 "_law_by_place" [] gf_by_place := by
  obtain ⟨f, fd, F, hm⟩ := T.tf_by_place
  exact ⟨f, fd, Pf_by_place, fn_ok (N := Nf_by_place) (ps := Pf_by_place) (m := mf_by_place) F scf_by_place (by decide) (df_by_place T), hm, F.kp, (F.binds (ps := Pf_by_place) fun _ _ _ _ _ _ us hl => match us, hl with | [_, _], _ => rfl)⟩
theorem scf_pick : FnScope Nf_pick Pf_pick (defScope sf_pick) := ⟨rfl, rfl, rfl, by decide +kernel, rfl, by decide +kernel, by decide +kernel⟩
theorem df_pick (T : Top b) : ESs (stOf b Nf_pick (defScope sf_pick) 1 2) (defBody sf_pick) mf_pick :=
  (ess_cons (xset 2 (xcalR 0 (calf_dip T) (ea_cons (xB b_len T.b_len bt_len (ea_cons (xv 1) ea_nil)) ea_nil)))
    (ess_one (es_ret (ed_ix (xv 1) (xv 2)))))
theorem calf_pick (T : Top b) : Cal b 2 "_law_pick" [0] gf_pick := by
  obtain ⟨f, fd, F, hm⟩ := T.tf_pick
  exact ⟨f, fd, Pf_pick, fn_ok (N := Nf_pick) (ps := Pf_pick) (m := mf_pick) F scf_pick (by decide) (df_pick T), hm, F.kp, (F.binds (ps := Pf_pick) fun _ _ _ _ _ _ us hl => match us, hl with | [_, _], _ => rfl)⟩
theorem scf_odd : FnScope Nf_odd Pf_odd (defScope sf_odd) := ⟨rfl, rfl, rfl, by decide +kernel, rfl, by decide +kernel, by decide +kernel⟩
theorem df_odd (T : Top b) : ESs (stOf b Nf_odd (defScope sf_odd) 2 1) (defBody sf_odd) mf_odd :=
  (ess_cons (xset 1 (ed_lst (ea_cons ed_non (ea_cons ed_bl (ea_cons ed_bl (ea_cons ed_int (ea_cons ed_int (ea_cons (ed_un u_neg ed_int) (ea_cons ed_int (ea_cons (ed_bin b_pow ed_int ed_int) (ea_cons xstr ea_nil)))))))))))
    (ess_cons (xset 1 (ed_bin b_add (xv 1) (ed_lst (ea_cons xstr (ea_cons xstr (ea_cons xstr (ea_cons xstr (ea_cons (ed_tup ea_nil) (ea_cons (ed_tup (ea_cons xstr ea_nil)) (ea_cons (ed_tup (ea_cons xstr (ea_cons xstr ea_nil))) (ea_cons (ed_lst (ea_cons xstr ea_nil)) (ea_cons (ed_lst ea_nil) ea_nil))))))))))))
    (ess_one (es_ret (xcalR 0 (calf_pick T) (ea_cons (ed_bin b_add (xv 1) (ed_lst (ea_cons xdict0 (ea_cons xdict1 (ea_cons (ed_tup (ea_cons ed_non (ea_cons ed_int ea_nil))) (ea_cons xstr (ea_cons (ed_tup (ea_cons (ed_tup (ea_cons xstr (ea_cons xstr ea_nil))) ea_nil)) (ea_cons (ed_tup (ea_cons xstr (ea_cons xstr ea_nil))) (ea_cons (ed_lst (ea_cons (ed_lst ea_nil) ea_nil)) (ea_cons (ed_tup (ea_cons (ed_tup ea_nil) ea_nil)) (ea_cons xstr (ea_cons xstr ea_nil)))))))))))) ea_nil))))))
theorem calf_odd (T : Top b) : Cal b 3 "_law_odd" [0] gf_odd := by
  obtain ⟨f, fd, F, hm⟩ := T.tf_odd
  exact ⟨f, fd, Pf_odd, fn_ok (N := Nf_odd) (ps := Pf_odd) (m := mf_odd) F scf_odd (by decide) (df_odd T), hm, F.kp, (F.binds (ps := Pf_odd) fun _ _ _ _ _ _ us hl => match us, hl with | [_], _ => rfl)⟩
theorem scf_right : FnScope Nf_right Pf_right (defScope sf_right) := ⟨rfl, rfl, rfl, by decide +kernel, rfl, by decide +kernel, by decide +kernel⟩
theorem df_right (T : Top b) : ESs (stOf b Nf_right (defScope sf_right) 3 1) (defBody sf_right) mf_right :=
  (ess_cons (xpar 1 2 (ev_fz (xcalR 0 (calf_odd T) ea_nil)) (ev_fz (xcalR 0 (calf_odd T) ea_nil)))
    (ess_cons (es_pre [3, 4, 6, 7] (es_for (ei_seq (ed_lst (ea_cons (xcal (calf_by_place T) (ea_cons (xv 1) (ea_cons (xv 2) ea_nil))) (ea_cons (xcal (calf_by_word T) (ea_cons (xv 1) (ea_cons (xv 2) ea_nil))) ea_nil)))) (xg 3) (ess_wip [3, 4, 6, 7] (ess_cons (xset 3 (ed_bin b_add (xv 3) (ed_lst (ea_cons (ed_mkE0 T.er_NothingToUndo) ea_nil))))
    (ess_one (es_pre [4, 6, 7] (es_for (xrng1 T.b_range (ea_cons ed_int ea_nil)) (xg 4) (ess_wip [4, 6, 7] (ess_cons (es_if (tcmp c_ne (xcal (calf_sorts T) (ea_cons (ed_ix (xv 3) (xv 4)) ea_nil)) (xlc [("_law_k", 5)] (xrng1 T.b_range (ea_cons ed_int ea_nil)) (xg 5) ets_nil (xcmp c_eq (xv 5) (xv 4)))) (ess_one (es_ret ed_bl)) ess_nil)
    (ess_cons (xset 6 (ed_if (tcmp c_lt (xv 4) ed_int) ed_int (ed_if (tcmp c_eq (xv 4) ed_int) ed_int ed_int)))
    (ess_cons (es_if (tcmp c_ne (xcal (calf_bases T) (ea_cons (ed_ix (xv 3) (xv 4)) ea_nil)) (xlc [("_law_k", 5)] (xrng1 T.b_range (ea_cons ed_int ea_nil)) (xg 5) ets_nil (xcmp c_eq (xv 5) (xv 6)))) (ess_one (es_ret ed_bl)) ess_nil)
    (ess_cons (xset 7 (ed_if (tcmp c_eq (ed_bin b_mod (xT b_int T.b_int bt_int (ea_cons (xv 4) ea_nil)) ed_int) ed_int) (xv 1) (xv 2)))
    (ess_one (es_if (EW.et (ew_and (tcmp c_lt (xv 4) ed_int) (ew_and1 (tcmp c_ne (xB b_repr2 T.b_repr bt_repr (ea_cons (xcal (calf_kept T) (ea_cons (ed_ix (xv 3) (xv 4)) (ea_cons (xv 4) ea_nil))) ea_nil)) (xB b_repr2 T.b_repr bt_repr (ea_cons (xv 7) ea_nil)))))) (ess_one (es_ret ed_bl)) ess_nil)))))) rfl)) rfl))) rfl)) rfl)
    (ess_one (es_ret ed_bl))))
theorem calf_right (T : Top b) : Cal b 4 "_law_right" [0] gf_right := by
  obtain ⟨f, fd, F, hm⟩ := T.tf_right
  exact ⟨f, fd, Pf_right, fn_ok (N := Nf_right) (ps := Pf_right) (m := mf_right) F scf_right (by decide) (df_right T), hm, F.kp, (F.binds (ps := Pf_right) fun _ _ _ _ _ _ us hl => match us, hl with | [_], _ => rfl)⟩
theorem scf_law : FnScope Nf_law Pf_law (defScope sf_law) := ⟨rfl, rfl, rfl, by decide +kernel, rfl, by decide +kernel, by decide +kernel⟩
theorem df_law (T : Top b) : ESs (stOf b Nf_law (defScope sf_law) 4 1) (defBody sf_law) mf_law :=
  (ess_cons (es_if (tcmp c_ne (ed_lst (ea_cons (xgi T.g_MOST_SIGNS) (ea_cons (xgi T.g_MOST_LENGTH) (ea_cons (xgi T.g_MOST_MESSAGES) (ea_cons (xgi T.g_MOST_ROWS) (ea_cons (xgi T.g_MOST_SEEN) ea_nil)))))) (ed_lst (ea_cons ed_int (ea_cons ed_int (ea_cons ed_int (ea_cons ed_int (ea_cons ed_int ea_nil))))))) (ess_one (es_ret ed_bl)) ess_nil)
    (ess_cons (xset 1 (ed_lst (ea_cons (ed_mkE0 T.er_WrongValue) (ea_cons (ed_mkE0 T.er_WrongName) (ea_cons (ed_mkE0 T.er_NotPossible) ea_nil)))))
    (ess_cons (es_if (tcmp c_ne (xlc [("_law_e", 2)] (ei_seq (xv 1)) (xg 2) ets_nil (xcal (calf_bases T) (ea_cons (xv 2) ea_nil))) (ed_lst (ea_cons (ed_lst (ea_cons ed_bl (ea_cons ed_bl (ea_cons ed_bl ea_nil)))) (ea_cons (ed_lst (ea_cons ed_bl (ea_cons ed_bl (ea_cons ed_bl ea_nil)))) (ea_cons (ed_lst (ea_cons ed_bl (ea_cons ed_bl (ea_cons ed_bl ea_nil)))) ea_nil))))) (ess_one (es_ret ed_bl)) ess_nil)
    (ess_one (es_ret (xB b_all T.b_all bt_all (ea_cons (xlc [("_law_k", 3)] (xrng1 T.b_range (ea_cons (xB b_max2 T.b_max bt_max (ea_cons ed_int (ea_cons (xB b_min2 T.b_min bt_min (ea_cons (xB b_len T.b_len bt_len (ea_cons (xv 0) ea_nil)) (ea_cons ed_int ea_nil))) ea_nil))) ea_nil)) (xg 3) ets_nil (xcalV (calf_right T) (xcalO (calf_jar T) (ea_cons (xv 0) (ea_cons (xv 3) ea_nil))))) ea_nil)))))))
theorem calf_law (T : Top b) : Cal b 5 "law" [] gf_law := by
  obtain ⟨f, fd, F, hm⟩ := T.tf_law
  exact ⟨f, fd, Pf_law, fn_ok (N := Nf_law) (ps := Pf_law) (m := mf_law) F scf_law (by decide) (df_law T), hm, F.kp, (F.binds (ps := Pf_law) fun _ _ _ _ _ _ us hl => match us, hl with | [_], _ => rfl)⟩
end
end LW

namespace LW
open PySem L2 DL
/-! base -/
/-! ### jars, lines -/
structure J where
  a : Int
  s : Int
  t : Int
def encJ (j : J) : D := .lst [.int j.a, .int j.s, .int j.t]
def J.seed (j : J) : Int := (j.s * 40692 + (j.t + 1) * 52021 + 31) % 2147483399
def dipN (j : J) (w : Nat) : Nat := if 0 < j.a then (j.a % w).toNat else (j.seed / 2048 % w).toNat
def dipJ (j : J) (w : Nat) : J := if 0 < j.a then ⟨j.a / w, j.s, j.t + 1⟩ else ⟨j.a, j.seed, j.t + 1⟩
theorem dipN_lt (j : J) {w : Nat} (h : 0 < w) : dipN j w < w := by
  unfold dipN
  split
  · have := Int.emod_lt_of_pos j.a (b := (w : Int)) (by omega)
    have := Int.emod_nonneg j.a (b := (w : Int)) (by omega)
    omega
  · have := Int.emod_lt_of_pos (j.seed / 2048) (b := (w : Int)) (by omega)
    have := Int.emod_nonneg (j.seed / 2048) (b := (w : Int)) (by omega)
    omega
def figs8 : Cs := [48, 49, 50, 51, 52, 53, 54, 55]
def abc : Cs := [97, 98, 99, 100, 101, 102, 103, 104, 105, 106, 107, 108, 109, 110, 111, 112, 113, 114, 115, 116, 117, 118, 119, 120, 121, 122]
def ltrs : Cs := [97, 98, 99, 100, 101, 102, 109, 110, 120, 121, 122]
abbrev Ps := List (Nat × Cs)
def encP (p : Nat × Cs) : D := .tup [.str [p.1], .str p.2]
def Lot (ps : Ps) : D := .tup (ps.map encP)
def LineD (ps : Ps) : D := .ins "Line" [("lot", Lot ps)]
structure Looks (l : Cs) : Prop where
  ne : l ≠ []
  up : l.Pairwise (· < ·)
  fig : ∀ c ∈ l, c ∈ figs8
structure Good (ps : Ps) : Prop where
  two : 2 ≤ ps.length
  six : ps.length ≤ 6
  nd : (ps.map (·.1)).Nodup
  ltr : ∀ p ∈ ps, p.1 ∈ abc
  lks : ∀ p ∈ ps, Looks p.2
theorem Looks.len {l : Cs} (h : Looks l) : l.length ≤ 8 := by
  have h1 : l.Nodup := h.up.imp fun {a b} h => Nat.ne_of_lt h
  exact List.Nodup.length_le_of_subset h1 h.fig
@[simp] theorem ix0P (p : Nat × Cs) : dIx (encP p) (.int 0) = some (.str [p.1]) := nrfl rfl
@[simp] theorem ix1P (p : Nat × Cs) : dIx (encP p) (.int 1) = some (.str p.2) := nrfl rfl
@[simp] theorem seqLot (ps : Ps) : dSeq (Lot ps) = some (ps.map encP) := nrfl rfl
@[simp] theorem lenLot (ps : Ps) : dLen [Lot ps] = some (.int ps.length) := by simp [Lot]
@[simp] theorem ixLot (ps : Ps) (n : Nat) : dIx (Lot ps) (.int n) = (ps[n]?).map encP := by simp [Lot]
@[simp] theorem attrLot (ps : Ps) : dAttr "Line" "lot" (LineD ps) = some (Lot ps) := nrfl rfl
@[simp] theorem insLine (ps : Ps) : isIns "Line" (LineD ps) = true := nrfl rfl
@[simp] theorem isP_encP (p : Nat × Cs) : isP (encP p) = true := by simp [encP]
@[simp] theorem isP_Lot (ps : Ps) : isP (Lot ps) = true := by simp [Lot]
@[simp] theorem deq_encP (p q : Nat × Cs) : deq (encP p) (encP q) = decide (p = q) := by
  obtain ⟨a, b⟩ := p
  obtain ⟨c, d⟩ := q
  simp [encP]
@[simp] theorem tgP (t u : Tg) (p : Nat × Cs) (ρ : En) : tgT 2 (tgC t (tgC u tgN)) (encP p) ρ = (t (.str [p.1]) ρ).bind (u (.str p.2)) := by
  simp only [encP, at_tgT, List.length_cons, List.length_nil, if_true, at_tgC]
  cases t (.str [p.1]) ρ with
  | none => rfl
  | some ρ1 => simp only [Option.bind_some, at_tgC]; cases u (.str p.2) ρ1 <;> rfl
theorem Good.sz {ps : Ps} (g : Good ps) : ps.length ≤ 16777216 := by have := g.six; omega
/-- two signs share a look -/
def mix (p q : Nat × Cs) : Bool := p.2.any fun c => decide (c ∈ q.2)
theorem mix_comm (p q : Nat × Cs) : mix p q = mix q p := by
  rw [Bool.eq_iff_iff]
  simp only [mix, List.any_eq_true, decide_eq_true_eq]
  exact ⟨fun ⟨c, h1, h2⟩ => ⟨c, h2, h1⟩, fun ⟨c, h1, h2⟩ => ⟨c, h2, h1⟩⟩
theorem nodup_inj {α : Type} {f : α → Nat} {xs : List α} (nd : (xs.map f).Nodup) {a b : α} (ha : a ∈ xs) (hb : b ∈ xs) (h : f a = f b) : a = b := by
  induction xs with
  | nil => cases ha
  | cons x r ih =>
    rw [List.map_cons, List.nodup_cons] at nd
    rcases List.mem_cons.mp ha with e1 | e1 <;> rcases List.mem_cons.mp hb with e2 | e2
    · rw [e1, e2]
    · subst e1; exact absurd (List.mem_map.mpr ⟨b, e2, h.symm⟩) nd.1
    · subst e2; exact absurd (List.mem_map.mpr ⟨a, e1, h⟩) nd.1
    · exact ih nd.2 e1 e2
@[simp] theorem rM_line (ps : Ps) : rM "Line" (.ok .non [LineD ps]) = .ok (LineD ps) := nrfl rfl
/-! base2 -/
/-! ### webs: who is mixed with whom, lots of signs -/
/-- the signs that are mixed with a sign -/
def ngh (ps : Ps) (a : Nat) : Cs := match ps.find? (fun p => p.1 == a) with
  | some p => (ps.filter fun q => mix p q).map (·.1)
  | none => []
def adj (ps : Ps) (a b : Nat) : Bool := decide (b ∈ ngh ps a)
def names (ps : Ps) : Cs := ps.map (·.1)
theorem find_name {ps : Ps} (nd : (ps.map (·.1)).Nodup) {p : Nat × Cs} (hp : p ∈ ps) : ps.find? (fun q => q.1 == p.1) = some p := by
  cases h : ps.find? (fun q => q.1 == p.1) with
  | none => exact absurd (List.find?_eq_none.mp h p hp) (by simp)
  | some q =>
    have h1 := List.find?_some h
    have h2 := List.mem_of_find?_eq_some h
    rw [nodup_inj (f := fun q : Nat × Cs => q.1) nd h2 hp (by simpa using h1)]
theorem ngh_of {ps : Ps} (nd : (ps.map (·.1)).Nodup) {p : Nat × Cs} (hp : p ∈ ps) : ngh ps p.1 = (ps.filter fun q => mix p q).map (·.1) := by
  unfold ngh; rw [find_name nd hp]
theorem adj_of {ps : Ps} (nd : (ps.map (·.1)).Nodup) {p q : Nat × Cs} (hp : p ∈ ps) (hq : q ∈ ps) : adj ps p.1 q.1 = mix p q := by
  unfold adj
  rw [ngh_of nd hp, Bool.eq_iff_iff, decide_eq_true_eq]
  constructor
  · intro h
    obtain ⟨r, hr, he⟩ := List.mem_map.mp h
    obtain ⟨hr, hm⟩ := List.mem_filter.mp hr
    rw [← nodup_inj (f := fun q : Nat × Cs => q.1) nd hr hq he]; exact hm
  · intro h
    exact List.mem_map.mpr ⟨q, List.mem_filter.mpr ⟨hq, h⟩, rfl⟩
theorem mem_names {ps : Ps} {a : Nat} (h : a ∈ names ps) : ∃ p ∈ ps, p.1 = a := by
  obtain ⟨p, hp, e⟩ := List.mem_map.mp h
  exact ⟨p, hp, e⟩
theorem snoc_ind {α : Type} {P : List α → Prop} (h0 : P []) (hs : ∀ l a, P l → P (l ++ [a])) : ∀ l, P l := by
  intro l
  have key : ∀ n (l : List α), l.length = n → P l := by
    intro n
    induction n with
    | zero => intro l h; rw [List.length_eq_zero_iff.mp h]; exact h0
    | succ n ih =>
      intro l h
      have hne : l ≠ [] := by intro e; rw [e] at h; cases h
      rw [← List.dropLast_concat_getLast hne]
      exact hs _ _ (ih _ (by rw [List.length_dropLast]; omega))
  exact key _ l rfl
/-- all lots of some signs -/
def lotsN (ls : Cs) : List Cs := ls.foldl (fun acc s => acc ++ acc.map fun l => l ++ [s]) [[]]
/-- the signs in order -/
def ord (ps : Ps) : Cs := sortN (names ps)
theorem ord_len (ps : Ps) : (ord ps).length = ps.length := by simp [ord, names]
theorem lot_mem {ps : Ps} {x : Cs} (h : x.Sublist (ord ps)) {a : Nat} (ha : a ∈ x) : a ∈ names ps := mem_sortN.mp (h.subset ha)
theorem lot_len {ps : Ps} (g : Good ps) {x : Cs} (h : x.Sublist (ord ps)) : x.length ≤ 6 := by
  have := h.length_le; rw [ord_len] at this; have := g.six; omega
/-- the table of who is mixed with whom -/
def TabD (ps : Ps) : D := .dct (ps.map fun p => (DK.s [p.1], D.str ((ps.filter fun q => mix p q).map (·.1))))
theorem foldl_filter {α β : Type} (p : α → Bool) (f : α → β) : ∀ (xs : List α) (acc : List β), xs.foldl (fun s x => if p x = true then s ++ [f x] else s) acc = acc ++ (xs.filter p).map f
  | [], acc => by simp
  | x :: r, acc => by
    rw [List.foldl_cons, foldl_filter p f r]
    cases h : p x <;> simp [h]
def lens (l : List Cs) : List Int := l.map fun x => (x.length : Int)
/-- the greatest length -/
def mostL (l : List Cs) : Nat := (((maxL (lens l)).getD 0)).toNat
theorem names_small {ps : Ps} (g : Good ps) {a : Nat} (h : a ∈ names ps) : a < 0x110000 := by
  obtain ⟨p, hp, rfl⟩ := mem_names h
  have : ∀ c ∈ abc, c < 0x110000 := by decide
  exact this _ (g.ltr p hp)
theorem Rp.lot {ps : Ps} (g : Good ps) {x : Cs} (hx : x.Sublist (ord ps)) : Rp 0 62 (.str x) := Rp.str (m := 6) (fun c hc => names_small g (lot_mem hx hc)) (lot_len g hx)
theorem Rp.lots {ps : Ps} (g : Good ps) {l : List Cs} (h : ∀ x ∈ l, x.Sublist (ord ps)) (hl : l.length ≤ 64) : Rp 1 5000 (.tup (l.map .str)) :=
  (Rp.tup (k := 0) (n := 62) (m := 64) (fun d hd => by
    obtain ⟨x, hx, rfl⟩ := List.mem_map.mp hd
    exact Rp.lot g (h x hx)) (by simpa using hl)).mono (by omega) (by omega)
theorem forL_some {τ : Type} {t : Tg} {body : M Fl} (g : τ → D) {ρ : En} (f : τ → Option D) : ∀ {xs : List τ}, (∀ x ∈ xs, (∃ d ρ', f x = some d ∧ turn t body (g x) ρ = .ok (.rt d) ρ') ∨ (f x = none ∧ turn t body (g x) ρ = .ok .nx ρ)) → (∃ d ρ', xs.findSome? f = some d ∧ forL t body (xs.map g) ρ = .ok (.rt d) ρ') ∨ (xs.findSome? f = none ∧ forL t body (xs.map g) ρ = .ok .nx ρ)
  | [], _ => .inr ⟨rfl, rfl⟩
  | x :: r, h => by
    rcases h x List.mem_cons_self with ⟨d, ρ', h1, h2⟩ | ⟨h1, h2⟩
    · exact .inl ⟨d, ρ', by simp [h1], by rw [List.map_cons, forL_cons_rt h2]⟩
    · rw [List.map_cons, forL_cons_nx h2, List.findSome?_cons, h1]
      exact forL_some g f fun y hy => h y (List.mem_cons_of_mem _ hy)
theorem forL_skip {t : Tg} {body : M Fl} {ρ : En} : ∀ {ds es : List D}, (∀ d ∈ ds, turn t body d ρ = .ok .nx ρ) → forL t body (ds ++ es) ρ = forL t body es ρ
  | [], es, _ => rfl
  | d :: r, es, h => by
    rw [List.cons_append, forL_cons_nx (h d List.mem_cons_self)]
    exact forL_skip fun e he => h e (List.mem_cons_of_mem _ he)
def figsOf (ps : Ps) : Cs := figs8.filter fun f => ps.any fun p => decide (f ∈ p.2)
/-! base3 -/
/-! ### at most twenty lots none of which lies in another one -/
def chainT : List Nat := [0, 0, 1, 0, 2, 2, 1, 0, 3, 3, 4, 3, 5, 2, 1, 0, 6, 6, 7, 6, 8, 8, 7, 6, 9, 9, 4, 3, 5, 2, 1, 0, 10, 10, 11, 10, 12, 12, 11, 10, 13, 13, 14, 13, 15, 12, 11, 10, 16, 16, 17, 16, 18, 8, 7, 6, 19, 9, 4, 3, 5, 2, 1, 0]
def msk (x : Cs) : Cs → Nat
  | [] => 0
  | a :: r => (if a ∈ x then 1 else 0) + 2 * msk x r
theorem msk_lt (x : Cs) : ∀ ls : Cs, msk x ls < 2 ^ ls.length
  | [] => by simp [msk]
  | a :: r => by
    have := msk_lt x r
    simp only [msk, List.length_cons, Nat.pow_succ]
    split <;> omega
theorem msk_bit (x : Cs) : ∀ (ls : Cs) (i : Nat) (a : Nat), ls[i]? = some a → (msk x ls).testBit i = decide (a ∈ x)
  | [], i, a, h => by simp at h
  | b :: r, 0, a, h => by
    simp at h
    subst h
    rw [Nat.testBit_zero]
    simp only [msk]
    by_cases hb : b ∈ x
    · simp [hb]
    · simp [hb]
  | b :: r, i + 1, a, h => by
    rw [Nat.testBit_succ]
    have e : msk x (b :: r) / 2 = msk x r := by
      simp only [msk]
      split <;> omega
    rw [e]
    exact msk_bit x r i a (by simpa using h)
/-! base4 -/
/-! ### rows -/
/-- the looks of a sign -/
def lkOf (ps : Ps) (a : Nat) : Cs := match ps.find? (fun p => p.1 == a) with
  | some p => p.2
  | none => []
theorem lkOf_of {ps : Ps} (nd : (ps.map (·.1)).Nodup) {p : Nat × Cs} (hp : p ∈ ps) : lkOf ps p.1 = p.2 := by
  unfold lkOf; rw [find_name nd hp]
def RowOk (ps : Ps) (r : Cs) : Prop := ∀ a ∈ r, a ∈ names ps
/-- two rows are mixed -/
def rmix (ps : Ps) (r s : Cs) : Bool := (r.zip s).all fun p => adj ps p.1 p.2
theorem rmix_snoc (ps : Ps) {r s : Cs} (h : r.length = s.length) (a b : Nat) : rmix ps (r ++ [a]) (s ++ [b]) = (rmix ps r s && adj ps a b) := by
  unfold rmix
  rw [List.zip_append h]
  simp
theorem adj_iff {ps : Ps} (g : Good ps) {a b : Nat} (ha : a ∈ names ps) (hb : b ∈ names ps) : adj ps a b = true ↔ ∃ f, f ∈ lkOf ps a ∧ f ∈ lkOf ps b := by
  obtain ⟨p, hp, rfl⟩ := mem_names ha
  obtain ⟨q, hq, rfl⟩ := mem_names hb
  rw [adj_of g.nd hp hq, lkOf_of g.nd hp, lkOf_of g.nd hq]
  simp [mix]
/-- a text with one more sign, each of some -/
def grow (l b : Cs) : List Cs := l.map fun f => b ++ [f]
@[simp] theorem grow_len (l b : Cs) : (grow l b).length = l.length := by simp [grow]
theorem mem_grow {l b x : Cs} : x ∈ grow l b ↔ ∃ f ∈ l, b ++ [f] = x := by simp [grow]
/-- as what a row can come out -/
def outs (ps : Ps) (r : Cs) : List Cs := r.foldl (fun acc a => acc.flatMap (grow (lkOf ps a))) [[]]
theorem outs_snoc (ps : Ps) (r : Cs) (a : Nat) : outs ps (r ++ [a]) = (outs ps r).flatMap (grow (lkOf ps a)) := by
  unfold outs; rw [List.foldl_append]; rfl
theorem outs_meet {ps : Ps} (g : Good ps) : ∀ (r s : Cs), r.length = s.length → RowOk ps r → RowOk ps s → ((∃ x, x ∈ outs ps r ∧ x ∈ outs ps s) ↔ rmix ps r s = true) := by
  intro r
  refine snoc_ind (P := fun r => ∀ s : Cs, r.length = s.length → RowOk ps r → RowOk ps s → ((∃ x, x ∈ outs ps r ∧ x ∈ outs ps s) ↔ rmix ps r s = true)) ?_ ?_ r
  · intro s h _ _
    have : s = [] := List.length_eq_zero_iff.mp (by simpa using h.symm)
    subst this
    simp [outs, rmix]
  · intro r a ih s h hr hs
    have hne : s ≠ [] := by intro e; rw [e] at h; simp at h
    obtain ⟨t, b, rfl⟩ : ∃ t b, s = t ++ [b] := ⟨s.dropLast, s.getLast hne, (List.dropLast_concat_getLast hne).symm⟩
    have hl : r.length = t.length := by simpa using h
    have ha : a ∈ names ps := hr a (by simp)
    have hb : b ∈ names ps := hs b (by simp)
    rw [rmix_snoc ps hl, Bool.and_eq_true, ← ih t hl (fun x hx => hr x (by simp [hx])) (fun x hx => hs x (by simp [hx])), adj_iff g ha hb, outs_snoc, outs_snoc]
    simp only [List.mem_flatMap, mem_grow]
    constructor
    · rintro ⟨x, ⟨y, hy, f, hf, rfl⟩, ⟨z, hz, f', hf', e⟩⟩
      obtain ⟨e1, e2⟩ := List.append_inj' e rfl
      subst e1
      have e2 : f' = f := by simpa using e2
      subst e2
      exact ⟨⟨_, hy, hz⟩, _, hf, hf'⟩
    · rintro ⟨⟨x, h1, h2⟩, f, h3, h4⟩
      exact ⟨x ++ [f], ⟨x, h1, f, h3, rfl⟩, x, h2, f, h4, rfl⟩
def prod (l : List Nat) : Nat := l.foldl (· * ·) 1
theorem flat_const {α β : Type} (f : α → List β) (k : Nat) : ∀ (xs : List α), (∀ x ∈ xs, (f x).length = k) → (xs.flatMap f).length = xs.length * k
  | [], _ => by simp
  | x :: r, h => by
    rw [List.flatMap_cons, List.length_append, h x List.mem_cons_self, flat_const f k r fun y hy => h y (List.mem_cons_of_mem _ hy), List.length_cons, Nat.succ_mul]
    omega
/-- all rows of a length -/
def rowsN (ps : Ps) : Nat → List Cs
  | 0 => [[]]
  | n + 1 => (rowsN ps n).flatMap (grow (names ps))
theorem rowsN_len (ps : Ps) : ∀ n, (rowsN ps n).length = ps.length ^ n
  | 0 => rfl
  | n + 1 => by
    rw [rowsN, flat_const _ ps.length _ (fun x _ => by simp [names]), rowsN_len ps n, Nat.pow_succ]
theorem mem_rowsN {ps : Ps} : ∀ (n : Nat) {x : Cs}, x ∈ rowsN ps n → x.length = n ∧ RowOk ps x
  | 0, x, h => by
    have : x = [] := by simpa [rowsN] using h
    subst this
    exact ⟨rfl, fun _ h => nomatch h⟩
  | n + 1, x, h => by
    simp only [rowsN, List.mem_flatMap, mem_grow] at h
    obtain ⟨b, hb, a, ha, rfl⟩ := h
    obtain ⟨h1, h2⟩ := mem_rowsN n hb
    refine ⟨by simp [h1], fun c hc => ?_⟩
    rcases List.mem_append.mp hc with hc | hc
    · exact h2 c hc
    · rw [List.mem_singleton.mp hc]; exact ha
/-- a loop over 0, 1, .. that returns at the first place that is not right -/
theorem forL_scan {t : Tg} {body : M Fl} {ρ : En} {g : Nat → D} {d : D} (f : Nat → Bool) : ∀ (n a : Nat), (∀ k, a ≤ k → k < a + n → (∀ i, a ≤ i → i < k → f i = true) → (f k = true → turn t body (g k) ρ = .ok .nx ρ) ∧ (f k = false → ∃ ρ', turn t body (g k) ρ = .ok (.rt d) ρ')) →
    ((∀ k, a ≤ k → k < a + n → f k = true) ∧ forL t body ((List.range' a n).map g) ρ = .ok .nx ρ) ∨ ((∃ k, a ≤ k ∧ k < a + n ∧ f k = false) ∧ ∃ ρ', forL t body ((List.range' a n).map g) ρ = .ok (.rt d) ρ')
  | 0, a, _ => .inl ⟨fun k h1 h2 => by omega, rfl⟩
  | n + 1, a, h => by
    rw [List.range'_succ, List.map_cons]
    have h0 := h a (by omega) (by omega) (fun i h1 h2 => by omega)
    cases e : f a with
    | false =>
      obtain ⟨ρ', q⟩ := h0.2 e
      exact .inr ⟨⟨a, by omega, by omega, e⟩, ρ', by rw [forL_cons_rt q]⟩
    | true =>
      rw [forL_cons_nx (h0.1 e)]
      rcases forL_scan f n (a + 1) (fun k h1 h2 h3 => h k (by omega) (by omega) fun i h4 h5 => by
        by_cases hi : i = a
        · rw [hi]; exact e
        · exact h3 i (by omega) h5) with ⟨q1, q2⟩ | ⟨⟨k, q1, q2, q3⟩, q4⟩
      · refine .inl ⟨fun k h1 h2 => ?_, q2⟩
        by_cases hk : k = a
        · rw [hk]; exact e
        · exact q1 k (by omega) (by omega)
      · exact .inr ⟨⟨k, by omega, by omega, q3⟩, q4⟩
/-- a row can come out as a string -/
def canC (ps : Ps) (r s : Cs) : Bool := (r.zip s).all fun p => decide (p.2 ∈ lkOf ps p.1)
theorem can_mix {ps : Ps} (g : Good ps) : ∀ {r s x : Cs}, RowOk ps r → RowOk ps s → r.length = x.length → s.length = x.length → canC ps r x = true → canC ps s x = true → rmix ps r s = true
  | [], [], _, _, _, _, _, _, _ => rfl
  | [], _ :: _, [], _, _, _, h, _, _ => by simp at h
  | _ :: _, [], [], _, _, h, _, _, _ => by simp at h
  | a :: r, b :: s, c :: x, hr, hs, h1, h2, q1, q2 => by
    simp only [canC, List.zip_cons_cons, List.all_cons, Bool.and_eq_true, decide_eq_true_eq] at q1 q2
    have ih := can_mix g (r := r) (s := s) (x := x) (fun y hy => hr y (by simp [hy])) (fun y hy => hs y (by simp [hy])) (by simpa using h1) (by simpa using h2) q1.2 q2.2
    unfold rmix at ih ⊢
    simp only [List.zip_cons_cons, List.all_cons, Bool.and_eq_true]
    exact ⟨(adj_iff g (hr a (by simp)) (hs b (by simp))).mpr ⟨c, q1.1, q2.1⟩, ih⟩
def nearB (i j : Nat) : Bool := decide ((i + 5 - j) % 5 = 0 ∨ (i + 5 - j) % 5 = 1 ∨ (i + 5 - j) % 5 = 4)
theorem findSome_map {α β γ : Type} (f : α → Option β) (h : β → γ) : ∀ xs : List α, xs.findSome? (fun x => (f x).map h) = (xs.findSome? f).map h
  | [] => rfl
  | x :: r => by
    rw [List.findSome?_cons, List.findSome?_cons]
    cases f x with
    | none => exact findSome_map f h r
    | some b => rfl
/-! f_jar -/
theorem jar_turn (c : Int) (x : Int) (A B : Sl) : turn (put 3) b0f_jar (.int x) [A, B, .fz (.int c), .un, .un, .un] = .ok .nx [A, B, .fz (.int ((c * 733 + x) % 1000000009)), .un, .un, .un] := by
  have e : dMul (.int c) (.int 733) = some (.int (c * 733)) := dMul_r (by decide)
  simp [b0f_jar, e]
theorem jar_loop (ns : List Int) (B : Sl) (c : Int) : ∃ c', forL (put 3) b0f_jar ((ns.map D.int).take 4) [.fz (.lst (ns.map .int)), B, .fz (.int c), .un, .un, .un] = .ok .nx [.fz (.lst (ns.map .int)), B, .fz (.int c'), .un, .un, .un] := by
  rw [← List.map_take]
  exact ⟨_, forL_fold (t := put 3) (body := b0f_jar) D.int (fun c => [.fz (.lst (ns.map .int)), B, .fz (.int c), .un, .un, .un]) (fun c x => (c * 733 + x) % 1000000009) (ns.take 4) c fun _ _ x _ => jar_turn _ x _ _⟩
theorem ev_jar {ns : List Int} {k : Nat} (hk : k < 5) : ∃ j, gf_jar [.lst (ns.map .int), .int (k : Int)] = .oko (encJ j) [] := by
  have m1 : dMul (.int 7369) (.int ((k : Int) + 5)) = some (.int (7369 * ((k : Int) + 5))) := dMul_l (by decide)
  have m2 : dMul (.int (7369 * ((k : Int) + 5))) (.int ((k : Int) + 2)) = some (.int (7369 * ((k : Int) + 5) * ((k : Int) + 2))) := dMul_r (by omega)
  have m3 : ∀ n : Int, dMul (.int 29) (.int n) = some (.int (29 * n)) := fun n => dMul_l (by decide)
  have m4 : ∀ c, dMul (.int c) (.int 8117) = some (.int (c * 8117)) := fun c => dMul_r (by decide)
  have m5 : ∀ c, dMul (.int c) (.int 64013) = some (.int (c * 64013)) := fun c => dMul_r (by decide)
  have m6 : ∀ c, dMul (.int 105019) (.int c) = some (.int (105019 * c)) := fun c => dMul_l (by decide)
  have m7 : dPow (.int 10) (.int 18) = some (.int 1000000000000000000) := by rfl
  obtain ⟨c', e1⟩ := jar_loop ns (.fz (.int (k : Int))) (7369 * ((k : Int) + 5) * ((k : Int) + 2) + 29 * (ns.length : Int))
  suffices h : ∃ a b : Int, gf_jar [.lst (ns.map .int), .int (k : Int)] = .oko (.lst [.int a, .int b, .int 0]) [] by
    obtain ⟨a, b, h⟩ := h
    exact ⟨⟨a, b, 0⟩, h⟩
  by_cases h : k < ns.length
  · have e2 : ns[k]? = some ns[k] := List.getElem?_eq_getElem h
    by_cases c1 : ns[k] < 0
    · simp [gf_jar, mf_jar, entry, enc, m1, m2, m3, m4, m5, m6, m7, l0f_jar, e1, h, e2, c1]
    · by_cases c2 : 1000000000000000000 ≤ ns[k]
      · simp [gf_jar, mf_jar, entry, enc, m1, m2, m3, m4, m5, m6, m7, l0f_jar, e1, h, e2, c1, c2]
      · simp [gf_jar, mf_jar, entry, enc, m1, m2, m3, m4, m5, m6, m7, l0f_jar, e1, h, e2, c1, c2]
  · simp [gf_jar, mf_jar, entry, enc, m1, m2, m3, m4, m5, m6, m7, l0f_jar, e1, h]
/-! f_dip -/
theorem dipN_cast (j : J) {w : Nat} (h : 0 < w) : (dipN j w : Int) = if 0 < j.a then j.a % w else j.seed / 2048 % w := by
  unfold dipN
  split
  · exact Int.toNat_of_nonneg (Int.emod_nonneg _ (by omega))
  · exact Int.toNat_of_nonneg (Int.emod_nonneg _ (by omega))
theorem ev_dip' (j : J) (w : Nat) (h0 : 0 < w) (h : w < 18446744073709551616) : gf_dip [encJ j, .int (w : Int)] = .ok (.int (dipN j w)) [encJ (dipJ j w)] := by
  have h0' : (0 : Int) < w := by omega
  have hn : ¬ w = 0 := by omega
  have e1 : dFdv (.int j.a) (.int (w : Int)) = some (.int (j.a / w)) := dFdv_int h0' (by omega)
  have e2 : dMul (.int j.s) (.int 40692) = some (.int (j.s * 40692)) := dMul_r (by decide)
  have e3 : dMul (.int (j.t + 1)) (.int 52021) = some (.int ((j.t + 1) * 52021)) := dMul_r (by decide)
  have e4 : ∀ i, dFdv (.int i) (.int 2048) = some (.int (i / 2048)) := fun i => dFdv_int (by decide) (by decide)
  rw [dipN_cast j h0]
  unfold dipJ encJ
  by_cases ha : 0 < j.a
  · simp [gf_dip, mf_dip, entry, enc, ha, h0', hn, e1, atI, ixN]
  · simp [gf_dip, mf_dip, entry, enc, ha, h0', hn, e2, e3, e4, atI, ixN, J.seed]
@[simp] theorem ev_dip (j : J) (w : Int) (h0 : 0 < w) (h : w < 18446744073709551616) : gf_dip [encJ j, .int w] = .ok (.int (dipN j w.toNat)) [encJ (dipJ j w.toNat)] := by
  have := ev_dip' j w.toNat (by omega) (by omega)
  rwa [show (w.toNat : Int) = w by omega] at this
/-! f_pick -/
theorem ev_pick (j : J) {xs : List D} {x : D} (h : xs.length ≤ 1000) (hx : xs[dipN j xs.length]? = some x) : gf_pick [encJ j, .lst xs] = .ok x [encJ (dipJ j xs.length)] := by
  have h0 : xs.length ≠ 0 := by
    intro e
    have : xs = [] := List.length_eq_zero_iff.mp e
    subst this
    simp at hx
  have e := ev_dip' j xs.length (by omega) (by omega)
  simp [gf_pick, mf_pick, entry, enc, e, hx]
theorem pick_ex (j : J) {xs : List D} (h0 : xs ≠ []) (h : xs.length ≤ 1000) : ∃ x ∈ xs, gf_pick [encJ j, .lst xs] = .ok x [encJ (dipJ j xs.length)] := by
  have hl := dipN_lt j (List.length_pos_iff.mpr h0)
  exact ⟨_, List.getElem_mem hl, ev_pick j h (List.getElem?_eq_getElem hl)⟩
/-! f_odd -/
def odds : List D := [.non, .bl true, .bl false, .int 0, .int 1, .int (-1), .int 2, .int (1000000000000000000000000000000), .str [], .str [48], .str [97], .str [48, 49], .str [97, 32, 48], .tup [], .tup [.str [97]], .tup [.str [97], .str [48]], .lst [.str [97]], .lst [], .dct [], .dct [(.s [97], .int 1)], .tup [.non, .int 0], .str S_a_0_b_1, .tup [.tup [.str [97], .str [48]]], .tup [.str [48], .str [48]], .lst [.lst []], .tup [.tup []], .str [65], .str [56]]
theorem odd_ex (j : J) : ∃ x ∈ odds, ∃ j', gf_odd [encJ j] = .ok x [encJ j'] := by
  have hp : dPow (.int 10) (.int 30) = some (.int (1000000000000000000000000000000)) := by rfl
  have hn : dNeg (.int 1) = some (.int (-1)) := rfl
  obtain ⟨x, hx, e⟩ := pick_ex j (xs := odds) (by decide) (by decide)
  refine ⟨x, hx, dipJ j odds.length, ?_⟩
  have e' : gf_pick [encJ j, .lst [.non, .bl true, .bl false, .int 0, .int 1, .int (-1), .int 2, .int (1000000000000000000000000000000), .str [], .str [48], .str [97], .str [48, 49], .str [97, 32, 48], .tup [], .tup [.str [97]], .tup [.str [97], .str [48]], .lst [.str [97]], .lst [], .dct [], .dct [(.s [97], .int 1)], .tup [.non, .int 0], .str S_a_0_b_1, .tup [.tup [.str [97], .str [48]]], .tup [.str [48], .str [48]], .lst [.lst []], .tup [.tup []], .str [65], .str [56]]] = .ok x [encJ (dipJ j odds.length)] := e
  simp [gf_odd, mf_odd, entry, enc, hp, hn]
  rw [e']
  simp
/-! f_law -/
-- the law's own text is in lw
/-! lw -/
@[simp] theorem at_mkE (n f : String) (m : M D) (ρ : En) : mkE n f m ρ = (m ρ).b fun d ρ1 => .ok (.exc n [(f, d)]) ρ1 := by
  unfold mkE bnd; cases m ρ <;> rfl
@[simp] theorem at_mkE0 (n : String) (ρ : En) : mkE0 n ρ = .ok (.exc n []) ρ := rfl
@[simp] theorem at_fldE (tb : ErTab) (f : String) (m : M D) (ρ : En) : fldE tb f m ρ = (m ρ).b fun d => lift (dFldE tb f d) := by
  unfold fldE bnd; cases m ρ <;> rfl
def exL (x y : D) : List D := [.exc "InvalidText" [("given", x)], .exc "InvalidRow" [("given", y)], .exc "InvalidNumber" [("given", x)], .exc "InvalidLook" [("given", y)], .exc "InvalidLooks" [("given", x)], .exc "InvalidSign" [("given", y)], .exc "InvalidFraction" [("given", x)], .exc "InvalidWish" [("given", y)], .exc "InvalidCommand" [("given", x)], .exc "NotALine" [("given", y)], .exc "InvalidSigns" [("index", x)], .exc "InvalidRows" [("index", y)], .exc "InvalidTable" [("index", x)], .exc "InvalidPlan" [("index", y)], .exc "InvalidSeen" [("index", x)], .exc "UnknownSign" [("given", y)], .exc "TooLong" [("given", x)], .exc "TooMany" [("given", y)], .exc "TooFew" [("given", x)], .exc "NotLeft" [("given", y)], .exc "Broken" [("index", x)]]
def exA (x y : D) : List D := exL x y ++ [.exc "NothingToUndo" []]
def trS (i : Nat) : List D := (List.range 22).map fun k => D.bl (decide (k = i))
def undr (i : Nat) : Nat := if i < 15 then 0 else if i = 15 then 1 else 2
def trB (i : Nat) : List D := (List.range 3).map fun k => D.bl (decide (k = undr i))
theorem ev_place (x y : D) : gf_by_place [x, y] = .ok (.lst (exL x y)) [] := by simp [gf_by_place, mf_by_place, entry, enc, exL]
theorem ev_word (x y : D) : gf_by_word [x, y] = .ok (.lst (exL x y)) [] := by simp [gf_by_word, mf_by_word, entry, enc, exL]
theorem srt_0 (z : D) : gf_sorts [.exc "InvalidText" [("given", z)]] = .ok (.lst (trS 0)) [] := by kernel_rfl
theorem bas_0 (z : D) : gf_bases [.exc "InvalidText" [("given", z)]] = .ok (.lst (trB 0)) [] := by kernel_rfl
theorem kep_0 (z : D) : gf_kept [.exc "InvalidText" [("given", z)], .int 0] = .ok z [] := by kernel_rfl
theorem srt_1 (z : D) : gf_sorts [.exc "InvalidRow" [("given", z)]] = .ok (.lst (trS 1)) [] := by kernel_rfl
theorem bas_1 (z : D) : gf_bases [.exc "InvalidRow" [("given", z)]] = .ok (.lst (trB 1)) [] := by kernel_rfl
theorem kep_1 (z : D) : gf_kept [.exc "InvalidRow" [("given", z)], .int 1] = .ok z [] := by kernel_rfl
theorem srt_2 (z : D) : gf_sorts [.exc "InvalidNumber" [("given", z)]] = .ok (.lst (trS 2)) [] := by kernel_rfl
theorem bas_2 (z : D) : gf_bases [.exc "InvalidNumber" [("given", z)]] = .ok (.lst (trB 2)) [] := by kernel_rfl
theorem kep_2 (z : D) : gf_kept [.exc "InvalidNumber" [("given", z)], .int 2] = .ok z [] := by kernel_rfl
theorem srt_3 (z : D) : gf_sorts [.exc "InvalidLook" [("given", z)]] = .ok (.lst (trS 3)) [] := by kernel_rfl
theorem bas_3 (z : D) : gf_bases [.exc "InvalidLook" [("given", z)]] = .ok (.lst (trB 3)) [] := by kernel_rfl
theorem kep_3 (z : D) : gf_kept [.exc "InvalidLook" [("given", z)], .int 3] = .ok z [] := by kernel_rfl
theorem srt_4 (z : D) : gf_sorts [.exc "InvalidLooks" [("given", z)]] = .ok (.lst (trS 4)) [] := by kernel_rfl
theorem bas_4 (z : D) : gf_bases [.exc "InvalidLooks" [("given", z)]] = .ok (.lst (trB 4)) [] := by kernel_rfl
theorem kep_4 (z : D) : gf_kept [.exc "InvalidLooks" [("given", z)], .int 4] = .ok z [] := by kernel_rfl
theorem srt_5 (z : D) : gf_sorts [.exc "InvalidSign" [("given", z)]] = .ok (.lst (trS 5)) [] := by kernel_rfl
theorem bas_5 (z : D) : gf_bases [.exc "InvalidSign" [("given", z)]] = .ok (.lst (trB 5)) [] := by kernel_rfl
theorem kep_5 (z : D) : gf_kept [.exc "InvalidSign" [("given", z)], .int 5] = .ok z [] := by kernel_rfl
theorem srt_6 (z : D) : gf_sorts [.exc "InvalidFraction" [("given", z)]] = .ok (.lst (trS 6)) [] := by kernel_rfl
theorem bas_6 (z : D) : gf_bases [.exc "InvalidFraction" [("given", z)]] = .ok (.lst (trB 6)) [] := by kernel_rfl
theorem kep_6 (z : D) : gf_kept [.exc "InvalidFraction" [("given", z)], .int 6] = .ok z [] := by kernel_rfl
theorem srt_7 (z : D) : gf_sorts [.exc "InvalidWish" [("given", z)]] = .ok (.lst (trS 7)) [] := by kernel_rfl
theorem bas_7 (z : D) : gf_bases [.exc "InvalidWish" [("given", z)]] = .ok (.lst (trB 7)) [] := by kernel_rfl
theorem kep_7 (z : D) : gf_kept [.exc "InvalidWish" [("given", z)], .int 7] = .ok z [] := by kernel_rfl
theorem srt_8 (z : D) : gf_sorts [.exc "InvalidCommand" [("given", z)]] = .ok (.lst (trS 8)) [] := by kernel_rfl
theorem bas_8 (z : D) : gf_bases [.exc "InvalidCommand" [("given", z)]] = .ok (.lst (trB 8)) [] := by kernel_rfl
theorem kep_8 (z : D) : gf_kept [.exc "InvalidCommand" [("given", z)], .int 8] = .ok z [] := by kernel_rfl
theorem srt_9 (z : D) : gf_sorts [.exc "NotALine" [("given", z)]] = .ok (.lst (trS 9)) [] := by kernel_rfl
theorem bas_9 (z : D) : gf_bases [.exc "NotALine" [("given", z)]] = .ok (.lst (trB 9)) [] := by kernel_rfl
theorem kep_9 (z : D) : gf_kept [.exc "NotALine" [("given", z)], .int 9] = .ok z [] := by kernel_rfl
theorem srt_10 (z : D) : gf_sorts [.exc "InvalidSigns" [("index", z)]] = .ok (.lst (trS 10)) [] := by kernel_rfl
theorem bas_10 (z : D) : gf_bases [.exc "InvalidSigns" [("index", z)]] = .ok (.lst (trB 10)) [] := by kernel_rfl
theorem kep_10 (z : D) : gf_kept [.exc "InvalidSigns" [("index", z)], .int 10] = .ok z [] := by kernel_rfl
theorem srt_11 (z : D) : gf_sorts [.exc "InvalidRows" [("index", z)]] = .ok (.lst (trS 11)) [] := by kernel_rfl
theorem bas_11 (z : D) : gf_bases [.exc "InvalidRows" [("index", z)]] = .ok (.lst (trB 11)) [] := by kernel_rfl
theorem kep_11 (z : D) : gf_kept [.exc "InvalidRows" [("index", z)], .int 11] = .ok z [] := by kernel_rfl
theorem srt_12 (z : D) : gf_sorts [.exc "InvalidTable" [("index", z)]] = .ok (.lst (trS 12)) [] := by kernel_rfl
theorem bas_12 (z : D) : gf_bases [.exc "InvalidTable" [("index", z)]] = .ok (.lst (trB 12)) [] := by kernel_rfl
theorem kep_12 (z : D) : gf_kept [.exc "InvalidTable" [("index", z)], .int 12] = .ok z [] := by kernel_rfl
theorem srt_13 (z : D) : gf_sorts [.exc "InvalidPlan" [("index", z)]] = .ok (.lst (trS 13)) [] := by kernel_rfl
theorem bas_13 (z : D) : gf_bases [.exc "InvalidPlan" [("index", z)]] = .ok (.lst (trB 13)) [] := by kernel_rfl
theorem kep_13 (z : D) : gf_kept [.exc "InvalidPlan" [("index", z)], .int 13] = .ok z [] := by kernel_rfl
theorem srt_14 (z : D) : gf_sorts [.exc "InvalidSeen" [("index", z)]] = .ok (.lst (trS 14)) [] := by kernel_rfl
theorem bas_14 (z : D) : gf_bases [.exc "InvalidSeen" [("index", z)]] = .ok (.lst (trB 14)) [] := by kernel_rfl
theorem kep_14 (z : D) : gf_kept [.exc "InvalidSeen" [("index", z)], .int 14] = .ok z [] := by kernel_rfl
theorem srt_15 (z : D) : gf_sorts [.exc "UnknownSign" [("given", z)]] = .ok (.lst (trS 15)) [] := by kernel_rfl
theorem bas_15 (z : D) : gf_bases [.exc "UnknownSign" [("given", z)]] = .ok (.lst (trB 15)) [] := by kernel_rfl
theorem kep_15 (z : D) : gf_kept [.exc "UnknownSign" [("given", z)], .int 15] = .ok z [] := by kernel_rfl
theorem srt_16 (z : D) : gf_sorts [.exc "TooLong" [("given", z)]] = .ok (.lst (trS 16)) [] := by kernel_rfl
theorem bas_16 (z : D) : gf_bases [.exc "TooLong" [("given", z)]] = .ok (.lst (trB 16)) [] := by kernel_rfl
theorem kep_16 (z : D) : gf_kept [.exc "TooLong" [("given", z)], .int 16] = .ok z [] := by kernel_rfl
theorem srt_17 (z : D) : gf_sorts [.exc "TooMany" [("given", z)]] = .ok (.lst (trS 17)) [] := by kernel_rfl
theorem bas_17 (z : D) : gf_bases [.exc "TooMany" [("given", z)]] = .ok (.lst (trB 17)) [] := by kernel_rfl
theorem kep_17 (z : D) : gf_kept [.exc "TooMany" [("given", z)], .int 17] = .ok z [] := by kernel_rfl
theorem srt_18 (z : D) : gf_sorts [.exc "TooFew" [("given", z)]] = .ok (.lst (trS 18)) [] := by kernel_rfl
theorem bas_18 (z : D) : gf_bases [.exc "TooFew" [("given", z)]] = .ok (.lst (trB 18)) [] := by kernel_rfl
theorem kep_18 (z : D) : gf_kept [.exc "TooFew" [("given", z)], .int 18] = .ok z [] := by kernel_rfl
theorem srt_19 (z : D) : gf_sorts [.exc "NotLeft" [("given", z)]] = .ok (.lst (trS 19)) [] := by kernel_rfl
theorem bas_19 (z : D) : gf_bases [.exc "NotLeft" [("given", z)]] = .ok (.lst (trB 19)) [] := by kernel_rfl
theorem kep_19 (z : D) : gf_kept [.exc "NotLeft" [("given", z)], .int 19] = .ok z [] := by kernel_rfl
theorem srt_20 (z : D) : gf_sorts [.exc "Broken" [("index", z)]] = .ok (.lst (trS 20)) [] := by kernel_rfl
theorem bas_20 (z : D) : gf_bases [.exc "Broken" [("index", z)]] = .ok (.lst (trB 20)) [] := by kernel_rfl
theorem kep_20 (z : D) : gf_kept [.exc "Broken" [("index", z)], .int 20] = .ok z [] := by kernel_rfl
theorem srt_21 : gf_sorts [.exc "NothingToUndo" []] = .ok (.lst (trS 21)) [] := by kernel_rfl
theorem bas_21 : gf_bases [.exc "NothingToUndo" []] = .ok (.lst (trB 21)) [] := by kernel_rfl
def okR (x : D) : Bool := okRep x || okRep2 x
theorem odds_rep : ∀ x ∈ odds, ∃ r, dRepr2 x = some (.str r) := fun x hx => by
  have h : okR x = true := List.all_eq_true.mp (show odds.all okR = true by decide +kernel) x hx
  unfold okR at h
  by_cases h1 : okRep x = true
  · refine ⟨shw x, ?_⟩
    unfold dRepr2 dRepr
    rw [if_pos h1, if_pos h1]
  · rw [Bool.or_eq_true] at h
    have h2 := h.resolve_left h1
    refine ⟨shw2 x, ?_⟩
    unfold dRepr2
    rw [if_neg h1, if_pos h2]
def dueD (i : Nat) (x y : D) : D := if i % 2 = 0 then x else y
theorem ne_bls (xs : List Bool) : dNe (.lst (xs.map .bl)) (.lst (xs.map .bl)) = some (.bl false) := by
  refine dNe_self ?_ ?_
  · simp
  · have : deps (xs.map D.bl) = 0 := by
      induction xs with
      | nil => rfl
      | cons a r ih => simp [deps, dep, ih]
    simp [dep, this]
theorem ne_trS (i : Nat) : dNe (.lst (trS i)) (.lst (trS i)) = some (.bl false) := by
  have e : trS i = ((List.range 22).map fun k => decide (k = i)).map D.bl := by unfold trS; rw [List.map_map]; rfl
  rw [e]; exact ne_bls _
theorem ne_trB (i : Nat) : dNe (.lst (trB i)) (.lst (trB i)) = some (.bl false) := by
  have e : trB i = ((List.range 3).map fun k => decide (k = undr i)).map D.bl := by unfold trB; rw [List.map_map]; rfl
  rw [e]; exact ne_bls _
theorem rng22 : dRng1 [.int 22] = some ((List.range 22).map fun (k : Nat) => D.int (k : Int)) := by
  have := dRng1_nat 22
  rw [if_pos (by rw [sz_val]; decide)] at this
  exact this
theorem rng3 : dRng1 [.int 3] = some ((List.range 3).map fun (k : Nat) => D.int (k : Int)) := by
  have := dRng1_nat 3
  rw [if_pos (by rw [sz_val]; decide)] at this
  exact this
theorem lc_S (J x y : D) (xs : List D) (i : Nat) (s6 s7 : Sl) : lcM (srcL dRng1 (argc (cn (.int 22)) args0)) [5] (put 5) (ret true) (op2 dEq (v 5) (v 4)) [.ow J, .fz x, .fz y, .fz (.lst xs), .fz (.int (i : Int)), .un, s6, s7] = .ok (.lst (trS i)) [.ow J, .fz x, .fz y, .fz (.lst xs), .fz (.int (i : Int)), .un, s6, s7] := by
  simp [-at_srcL, at_srcL, rng22, trS]
theorem lc_B (J x y : D) (xs : List D) (i : Nat) (u : Int) (hu : u = (undr i : Nat)) (s4 s7 : Sl) : lcM (srcL dRng1 (argc (cn (.int 3)) args0)) [5] (put 5) (ret true) (op2 dEq (v 5) (v 6)) [.ow J, .fz x, .fz y, .fz (.lst xs), s4, .un, .fz (.int u), s7] = .ok (.lst (trB i)) [.ow J, .fz x, .fz y, .fz (.lst xs), s4, .un, .fz (.int u), s7] := by
  subst hu
  simp [rng3, trB]
theorem undr_a {i : Nat} (h : i < 15) : (0 : Int) = (undr i : Nat) := by simp [undr, h]
theorem undr_b {i : Nat} (h : i = 15) : (1 : Int) = (undr i : Nat) := by subst h; rfl
theorem undr_c {i : Nat} (h : 15 < i) : (2 : Int) = (undr i : Nat) := by
  have h1 : ¬ i < 15 := by omega
  have h2 : ¬ i = 15 := by omega
  simp [undr, h1, h2]
def en (J x y : D) (xs : List D) (s4 s6 s7 : Sl) : En := [.ow J, .fz x, .fz y, .fz (.lst xs), s4, .un, s6, s7]
theorem turn_ok (i : Nat) (hi : i < 22) {J x y e : D} {xs : List D} {r : Cs} (hx : xs[i]? = some e) (h1 : gf_sorts [e] = .ok (.lst (trS i)) []) (h2 : gf_bases [e] = .ok (.lst (trB i)) []) (h3 : i < 21 → gf_kept [e, .int (i : Int)] = .ok (dueD i x y) []) (hr : dRepr2 (dueD i x y) = some (.str r)) :
    turn (put 4) b0f_right (.int (i : Int)) (en J x y xs .un .un .un) = .ok .nx (en J x y xs .un .un .un) := by
  have d1 := ne_trS i
  have d2 := ne_trB i
  have l1 := lc_S J x y xs i .un .un
  unfold en
  by_cases c1 : i < 21
  · have h3 := h3 c1
    have hw : (i : Int) < 21 := by omega
    by_cases c0 : i < 15
    · have hz : (i : Int) < 15 := by omega
      by_cases c2 : i % 2 = 0
      · have c2' : (i : Int) % 2 = 0 := by omega
        simp only [dueD, c2, if_true] at h3 hr
        have l2 := lc_B J x y xs i 0 (undr_a c0) (.fz (.int (i : Int))) .un
        simp [-at_lcM, b0f_right, hx, h1, h2, h3, hr, d1, d2, l1, l2, c2', hz, hw]
      · have c2' : ¬ (i : Int) % 2 = 0 := by omega
        simp only [dueD, c2, if_false] at h3 hr
        have l2 := lc_B J x y xs i 0 (undr_a c0) (.fz (.int (i : Int))) .un
        simp [-at_lcM, b0f_right, hx, h1, h2, h3, hr, d1, d2, l1, l2, c2', hz, hw]
    · have hz : ¬ (i : Int) < 15 := by omega
      by_cases c5 : i = 15
      · have hq : ((i : Int) = 15) = True := eq_true (by omega)
        by_cases c2 : i % 2 = 0
        · have c2' : (i : Int) % 2 = 0 := by omega
          simp only [dueD, c2, if_true] at h3 hr
          have l2 := lc_B J x y xs i 1 (undr_b c5) (.fz (.int (i : Int))) .un
          simp [-at_lcM, b0f_right, hx, h1, h2, h3, hr, d1, d2, l1, l2, c2', hz, hw, hq]
        · have c2' : ¬ (i : Int) % 2 = 0 := by omega
          simp only [dueD, c2, if_false] at h3 hr
          have l2 := lc_B J x y xs i 1 (undr_b c5) (.fz (.int (i : Int))) .un
          simp [-at_lcM, b0f_right, hx, h1, h2, h3, hr, d1, d2, l1, l2, c2', hz, hw, hq]
      · have hq : ¬ (i : Int) = 15 := by omega
        by_cases c2 : i % 2 = 0
        · have c2' : (i : Int) % 2 = 0 := by omega
          simp only [dueD, c2, if_true] at h3 hr
          have l2 := lc_B J x y xs i 2 (undr_c (by omega)) (.fz (.int (i : Int))) .un
          simp [-at_lcM, b0f_right, hx, h1, h2, h3, hr, d1, d2, l1, l2, c2', hz, hw, hq]
        · have c2' : ¬ (i : Int) % 2 = 0 := by omega
          simp only [dueD, c2, if_false] at h3 hr
          have l2 := lc_B J x y xs i 2 (undr_c (by omega)) (.fz (.int (i : Int))) .un
          simp [-at_lcM, b0f_right, hx, h1, h2, h3, hr, d1, d2, l1, l2, c2', hz, hw, hq]
  · have hw : ¬ (i : Int) < 21 := by omega
    have hz : ¬ (i : Int) < 15 := by omega
    have hq : ¬ (i : Int) = 15 := by omega
    have l2 := lc_B J x y xs i 2 (undr_c (by omega)) (.fz (.int (i : Int))) .un
    have c2' : ¬ (i : Int) % 2 = 0 := by omega
    simp [-at_lcM, b0f_right, hx, h1, h2, d1, d2, l1, l2, c2', hz, hw, hq]
theorem all_turn {J x y : D} (hx : x ∈ odds) (hy : y ∈ odds) : ∀ i : Nat, i < 22 → turn (put 4) b0f_right (.int (i : Int)) (en J x y (exA x y) .un .un .un) = .ok .nx (en J x y (exA x y) .un .un .un) := by
  obtain ⟨rx, hrx⟩ := odds_rep x hx
  obtain ⟨ry, hry⟩ := odds_rep y hy
  intro i hi
  have due : ∃ r, dRepr2 (dueD i x y) = some (.str r) := by
    unfold dueD; split
    · exact ⟨rx, hrx⟩
    · exact ⟨ry, hry⟩
  obtain ⟨r, hr⟩ := due
  match i, hi with
  | 0, _ => exact turn_ok 0 (by decide) rfl (srt_0 _) (bas_0 _) (fun _ => kep_0 _) hr
  | 1, _ => exact turn_ok 1 (by decide) rfl (srt_1 _) (bas_1 _) (fun _ => kep_1 _) hr
  | 2, _ => exact turn_ok 2 (by decide) rfl (srt_2 _) (bas_2 _) (fun _ => kep_2 _) hr
  | 3, _ => exact turn_ok 3 (by decide) rfl (srt_3 _) (bas_3 _) (fun _ => kep_3 _) hr
  | 4, _ => exact turn_ok 4 (by decide) rfl (srt_4 _) (bas_4 _) (fun _ => kep_4 _) hr
  | 5, _ => exact turn_ok 5 (by decide) rfl (srt_5 _) (bas_5 _) (fun _ => kep_5 _) hr
  | 6, _ => exact turn_ok 6 (by decide) rfl (srt_6 _) (bas_6 _) (fun _ => kep_6 _) hr
  | 7, _ => exact turn_ok 7 (by decide) rfl (srt_7 _) (bas_7 _) (fun _ => kep_7 _) hr
  | 8, _ => exact turn_ok 8 (by decide) rfl (srt_8 _) (bas_8 _) (fun _ => kep_8 _) hr
  | 9, _ => exact turn_ok 9 (by decide) rfl (srt_9 _) (bas_9 _) (fun _ => kep_9 _) hr
  | 10, _ => exact turn_ok 10 (by decide) rfl (srt_10 _) (bas_10 _) (fun _ => kep_10 _) hr
  | 11, _ => exact turn_ok 11 (by decide) rfl (srt_11 _) (bas_11 _) (fun _ => kep_11 _) hr
  | 12, _ => exact turn_ok 12 (by decide) rfl (srt_12 _) (bas_12 _) (fun _ => kep_12 _) hr
  | 13, _ => exact turn_ok 13 (by decide) rfl (srt_13 _) (bas_13 _) (fun _ => kep_13 _) hr
  | 14, _ => exact turn_ok 14 (by decide) rfl (srt_14 _) (bas_14 _) (fun _ => kep_14 _) hr
  | 15, _ => exact turn_ok 15 (by decide) rfl (srt_15 _) (bas_15 _) (fun _ => kep_15 _) hr
  | 16, _ => exact turn_ok 16 (by decide) rfl (srt_16 _) (bas_16 _) (fun _ => kep_16 _) hr
  | 17, _ => exact turn_ok 17 (by decide) rfl (srt_17 _) (bas_17 _) (fun _ => kep_17 _) hr
  | 18, _ => exact turn_ok 18 (by decide) rfl (srt_18 _) (bas_18 _) (fun _ => kep_18 _) hr
  | 19, _ => exact turn_ok 19 (by decide) rfl (srt_19 _) (bas_19 _) (fun _ => kep_19 _) hr
  | 20, _ => exact turn_ok 20 (by decide) rfl (srt_20 _) (bas_20 _) (fun _ => kep_20 _) hr
  | 21, _ => exact turn_ok 21 (by decide) rfl srt_21 bas_21 (fun h => absurd h (by decide)) hr
  | n + 22, h => exact absurd h (by omega)
theorem all_loop {J x y : D} (hx : x ∈ odds) (hy : y ∈ odds) : forL (put 4) b0f_right ((List.range 22).map fun (i : Nat) => D.int (i : Int)) (en J x y (exA x y) .un .un .un) = .ok .nx (en J x y (exA x y) .un .un .un) := by
  obtain ⟨_, e, _⟩ := forL_inv (t := put 4) (body := b0f_right) (fun (_ : Unit) => en J x y (exA x y) .un .un .un) (fun _ => True) ((List.range 22).map fun (i : Nat) => D.int (i : Int)) () trivial fun d hd _ _ => by
    obtain ⟨k, hk, rfl⟩ := List.mem_map.mp hd
    exact ⟨(), all_turn hx hy k (List.mem_range.mp hk), trivial⟩
  exact e
theorem one_pass {J x y : D} (hx : x ∈ odds) (hy : y ∈ odds) : b2f_right [.ow J, .fz x, .fz y, .fz (.lst (exL x y)), .un, .un, .un, .un] = .ok .nx [.ow J, .fz x, .fz y, .un, .un, .un, .un, .un] := by
  have e := all_loop (J := J) hx hy
  unfold en exA at e
  simp [b2f_right, l0f_right, rng22, e, exL] at e ⊢
theorem ev_right (j : J) : ∃ j', gf_right [encJ j] = .ok (.bl true) [encJ j'] := by
  obtain ⟨x, hx, j1, e1⟩ := odd_ex j
  obtain ⟨y, hy, j2, e2⟩ := odd_ex j1
  have p := one_pass (J := encJ j2) hx hy
  exact ⟨j2, by simp [gf_right, mf_right, entry, enc, l2f_right, e1, e2, ev_place, ev_word, p]⟩
theorem bas_v : gf_bases [.exc "WrongValue" []] = .ok (.lst [.bl true, .bl false, .bl false]) [] := by kernel_rfl
theorem bas_n : gf_bases [.exc "WrongName" []] = .ok (.lst [.bl false, .bl true, .bl false]) [] := by kernel_rfl
theorem bas_p : gf_bases [.exc "NotPossible" []] = .ok (.lst [.bl false, .bl false, .bl true]) [] := by kernel_rfl
def plD : D := .lst [.exc "WrongValue" [], .exc "WrongName" [], .exc "NotPossible" []]
theorem ne_lim : dNe (.lst [.int 6, .int 30, .int 24, .int 64, .int 40]) (.lst [.int 6, .int 30, .int 24, .int 64, .int 40]) = some (.bl false) := by kernel_rfl
theorem ne_pl : dNe (.lst [.lst [.bl true, .bl false, .bl false], .lst [.bl false, .bl true, .bl false], .lst [.bl false, .bl false, .bl true]]) (.lst [.lst [.bl true, .bl false, .bl false], .lst [.bl false, .bl true, .bl false], .lst [.bl false, .bl false, .bl true]]) = some (.bl false) := by kernel_rfl
theorem law_true : ∀ ns : List Int, ns.length ≤ 63 → ∃ es, gf_law [.lst (ns.map .int)] = .ok (.bl true) es := by
  intro ns hl
  have key : ∃ n : Nat, n ≤ 5 ∧ srcL dRng1 (argc (opL dMax2 (argc (cn (.int 2)) (argc (opL dMin2 (argc (opL dLen (argc (v 0) args0)) (argc (cn (.int 4)) args0))) args0))) args0) [.fz (.lst (ns.map .int)), .fz plD, .un, .un] = .ok ((List.range n).map fun (i : Nat) => D.int (i : Int)) [.fz (.lst (ns.map .int)), .fz plD, .un, .un] := by
    have hm : ∃ n : Nat, n ≤ 5 ∧ (if (if (4 : Int) < (ns.length : Int) then (4 : Int) else (ns.length : Int)) > 2 then (if (4 : Int) < (ns.length : Int) then (4 : Int) else (ns.length : Int)) else 2) = (n : Int) := by
      refine ⟨(if (if (4 : Int) < (ns.length : Int) then (4 : Int) else (ns.length : Int)) > 2 then (if (4 : Int) < (ns.length : Int) then (4 : Int) else (ns.length : Int)) else 2).toNat, ?_, ?_⟩
      · split <;> split <;> omega
      · split <;> split <;> omega
    obtain ⟨n, h1, h2⟩ := hm
    refine ⟨n, h1, ?_⟩
    have h3 : n ≤ 16777216 := by omega
    simp only [at_srcL, at_argc, at_opL, at_cn, at_v, at_args0, Out.b_ok, List.getElem?_cons_zero, fzR_fz, R.k_ok, dLen_lst, at_lift, R.of_some, List.length_map, dMin2_int, dMax2_int, h2, dRng1_nat, sz_val, h3, if_true]
  obtain ⟨n, hn, h2⟩ := key
  obtain ⟨ys, _, e, m, rfl⟩ := lcM_st (vs := [3]) (t := put 3) (mt := ret true) (me := calV gf_right (calO gf_jar (argc (v 0) (argc (v 3) args0)))) (fun i : Nat => D.int (i : Int)) (fun (_ : Unit) => [Sl.fz (.lst (ns.map .int)), .fz plD, .un, .un]) (fun (ys : List Nat) (acc : List D) (_ : Unit) => ∃ m : Nat, acc = List.replicate m (D.bl true)) (xs := List.range n) (s0 := ()) h2
    (by intro _ i hi; simp at hi; subst hi; rfl) ⟨0, rfl⟩ fun ys zs x he acc s ⟨m, hm⟩ => by
      have hx : x < n := by
        have : x ∈ List.range n := by rw [he]; simp
        exact List.mem_range.mp this
      obtain ⟨j, e1⟩ := ev_jar (ns := ns) (k := x) (by omega)
      obtain ⟨j', e2⟩ := ev_right j
      refine ⟨some (.bl true), (), ?_, m + 1, by rw [hm, Option.toList_some, List.replicate_succ']⟩
      unfold turnC
      simp [e1, e2]
  have ea : ∀ m : Nat, dAll (.lst (List.replicate m (D.bl true))) = some (.bl true) := fun m => by
    have := dAll_map (fun _ : Nat => true) (List.range m)
    rw [List.map_const', List.length_range] at this
    simpa using this
  unfold plD at e
  exact ⟨[], by simp [gf_law, mf_law, entry, enc, ↓e, ea, lcx, bas_v, bas_n, bas_p, ne_lim, ne_pl]⟩
end LW

namespace LW
open PySem L2 DL PyProof.Rows
theorem fin {l : PySem.W.OpenLaw} {w : World} {K : PySem.W.Frag} {h : Heap} {mg : Str → Option Value} {fa f : Addr} {oc : Value} {od an : Option Addr} {sl : Array (Option Value)} {kV dc pm cd ct : Value} (X : K.In h) (G : h.Ns mainGlobals mg) (hfa : mg "law" = some (.ref fa)) (a : PySem.W.nsIn K mainGlobals "law" = some (some (.ref f)))
    (hl : K.lookup f = some ⟨oc, od, .func (PySem.W.fnOf "law" "law" (defArgs sf_law) (defBody sf_law) (defScope sf_law) .none kV dc pm an cd ct), sl⟩) (c : PySem.W.codeIn K cd "law" = true) (k : PySem.W.keepIn K (.ref f) = true) (T : ∀ base, Top (mkB l.prog w K mg base)) :
    ∃ fd : FuncData, (∀ (s : Shared) (u : Value), BindsTo s fd ⟨[u], []⟩ [("_law_script", u)]) ∧ ∀ base : Heap, K.In base → base.Ns mainGlobals mg → ∃ g, FnG l.prog w K mg base 5 fa fd ["_law_script"] (spF ⟨l.prog, w, K, mg, base, []⟩ [] g) ∧ ∀ ns : List Int, ns.length ≤ 63 → ∃ es, g [.lst (ns.map .int)] = .ok (.bl true) es := by
  cases hfa.symm.trans (PySem.W.mg_of X G a)
  have F := fun_mk (st := sf_law) hl c k
  exact ⟨_, fun s v => .of_eq rfl, fun base _ _ => ⟨gf_law, fn_ok (b := mkB l.prog w K mg base) F scf_law (by decide) (df_law (T base)), law_true⟩⟩
end LW
open PySem PySem.W PyProof.Rows DL in
set_option maxRecDepth 100000 in
set_option maxHeartbeats 0 in
theorem PySem.Challenge.cw_nevermixed_k01_limits_and_errors_holds : PySem.Challenge.rw_nevermixed_k01_limits_and_errors.Holds := by
  w_on; o_law
  refine holds_open (q := LW.hd_vw) (loose := LW.hd_lo) (Xt := LW.hd_xt) (XP := XL LW.hd_vw []) (Yf := LW.hd_hk.obs) (Ya := LW.hd_hk.val) (YP := LW.hd_hk.says) LW.hd_left LW.hd_hk.of LW.hd_hk.keeps (fun s e => xl_of s (Bool.and_eq_true_iff.mp e).1) XL.keeps (by rfl) (by rfl) (by rfl) (fun s e => recFacts_of (Bool.and_eq_true_iff.mp e).2) (by rfl) (by assumption) (by decide +kernel) ⟨rfl, rfl, rfl, rfl, rfl, by decide +kernel⟩ ?hw ?hc
  (case hw => w_witness2)
  k_fill
  refine DL.walk_ofG (l := PySem.Challenge.rw_nevermixed_k01_limits_and_errors) (n := 63) (k := 5) (x := "_law_script") rfl (by decide) rfl ⟨rfl, by decide, by decide⟩ (fun w h Y => PySem.W.kIn_of Y) ?NL ?F
  case NL => intro w; exact noList_of (by kernel_rfl)
  case F =>
    intro w mg fa h KX G hmg
    refine' LW.fin KX G hmg ?a ?l ?c ?k ?T
    (case a => k_is)
    (case l => k_is)
    (case c => k_is)
    (case k => k_is)
    refine' top_adr (n := "NotPossible") KX G ?ea_NotPossible ?er_NotPossible
    (case ea_NotPossible => k_is)
    intro e_NotPossible
    refine' top_adr (n := "WrongName") KX G ?ea_WrongName ?er_WrongName
    (case ea_WrongName => k_is)
    intro e_WrongName
    refine' top_adr (n := "WrongValue") KX G ?ea_WrongValue ?er_WrongValue
    (case ea_WrongValue => k_is)
    intro e_WrongValue
    refine' top_adr (n := "NothingToUndo") KX G ?ea_NothingToUndo ?er_NothingToUndo
    (case ea_NothingToUndo => k_is)
    intro e_NothingToUndo
    refine' top_adr (n := "InvalidLook") KX G ?ea_InvalidLook ?er_InvalidLook
    (case ea_InvalidLook => k_is)
    intro e_InvalidLook
    refine' top_adr (n := "InvalidNumber") KX G ?ea_InvalidNumber ?er_InvalidNumber
    (case ea_InvalidNumber => k_is)
    intro e_InvalidNumber
    refine' top_adr (n := "InvalidRow") KX G ?ea_InvalidRow ?er_InvalidRow
    (case ea_InvalidRow => k_is)
    intro e_InvalidRow
    refine' top_adr (n := "InvalidText") KX G ?ea_InvalidText ?er_InvalidText
    (case ea_InvalidText => k_is)
    intro e_InvalidText
    refine' top_adr (n := "InvalidWish") KX G ?ea_InvalidWish ?er_InvalidWish
    (case ea_InvalidWish => k_is)
    intro e_InvalidWish
    refine' top_adr (n := "InvalidFraction") KX G ?ea_InvalidFraction ?er_InvalidFraction
    (case ea_InvalidFraction => k_is)
    intro e_InvalidFraction
    refine' top_adr (n := "InvalidSign") KX G ?ea_InvalidSign ?er_InvalidSign
    (case ea_InvalidSign => k_is)
    intro e_InvalidSign
    refine' top_adr (n := "InvalidLooks") KX G ?ea_InvalidLooks ?er_InvalidLooks
    (case ea_InvalidLooks => k_is)
    intro e_InvalidLooks
    refine' top_adr (n := "InvalidRows") KX G ?ea_InvalidRows ?er_InvalidRows
    (case ea_InvalidRows => k_is)
    intro e_InvalidRows
    refine' top_adr (n := "InvalidSigns") KX G ?ea_InvalidSigns ?er_InvalidSigns
    (case ea_InvalidSigns => k_is)
    intro e_InvalidSigns
    refine' top_adr (n := "NotALine") KX G ?ea_NotALine ?er_NotALine
    (case ea_NotALine => k_is)
    intro e_NotALine
    refine' top_adr (n := "InvalidCommand") KX G ?ea_InvalidCommand ?er_InvalidCommand
    (case ea_InvalidCommand => k_is)
    intro e_InvalidCommand
    refine' top_adr (n := "UnknownSign") KX G ?ea_UnknownSign ?er_UnknownSign
    (case ea_UnknownSign => k_is)
    intro e_UnknownSign
    refine' top_adr (n := "InvalidSeen") KX G ?ea_InvalidSeen ?er_InvalidSeen
    (case ea_InvalidSeen => k_is)
    intro e_InvalidSeen
    refine' top_adr (n := "InvalidPlan") KX G ?ea_InvalidPlan ?er_InvalidPlan
    (case ea_InvalidPlan => k_is)
    intro e_InvalidPlan
    refine' top_adr (n := "InvalidTable") KX G ?ea_InvalidTable ?er_InvalidTable
    (case ea_InvalidTable => k_is)
    intro e_InvalidTable
    refine' top_adr (n := "NotLeft") KX G ?ea_NotLeft ?er_NotLeft
    (case ea_NotLeft => k_is)
    intro e_NotLeft
    refine' top_adr (n := "TooFew") KX G ?ea_TooFew ?er_TooFew
    (case ea_TooFew => k_is)
    intro e_TooFew
    refine' top_adr (n := "TooMany") KX G ?ea_TooMany ?er_TooMany
    (case ea_TooMany => k_is)
    intro e_TooMany
    refine' top_adr (n := "TooLong") KX G ?ea_TooLong ?er_TooLong
    (case ea_TooLong => k_is)
    intro e_TooLong
    refine' top_adr (n := "Broken") KX G ?ea_Broken ?er_Broken
    (case ea_Broken => k_is)
    intro e_Broken
    have A := Adr.cons e_NotPossible (Adr.cons e_WrongName (Adr.cons e_WrongValue (Adr.cons e_NothingToUndo (Adr.cons e_InvalidLook (Adr.cons e_InvalidNumber (Adr.cons e_InvalidRow (Adr.cons e_InvalidText (Adr.cons e_InvalidWish (Adr.cons e_InvalidFraction (Adr.cons e_InvalidSign (Adr.cons e_InvalidLooks (Adr.cons e_InvalidRows (Adr.cons e_InvalidSigns (Adr.cons e_NotALine (Adr.cons e_InvalidCommand (Adr.cons e_UnknownSign (Adr.cons e_InvalidSeen (Adr.cons e_InvalidPlan (Adr.cons e_InvalidTable (Adr.cons e_NotLeft (Adr.cons e_TooFew (Adr.cons e_TooMany (Adr.cons e_TooLong (Adr.cons e_Broken (Adr.nil)))))))))))))))))))))))))
    intro base
    exact {
      b_ArithmeticError := top_none KX G (by k_is)
      b_LookupError := top_none KX G (by k_is)
      b_ValueError := top_none KX G (by k_is)
      b_abs := top_none KX G (by k_is)
      b_all := top_none KX G (by k_is)
      b_int := top_none KX G (by k_is)
      b_isinstance := top_none KX G (by k_is)
      b_len := top_none KX G (by k_is)
      b_max := top_none KX G (by k_is)
      b_min := top_none KX G (by k_is)
      b_range := top_none KX G (by k_is)
      b_repr := top_none KX G (by k_is)
      g_MOST_LENGTH := by
        refine' top_int KX G ?a
        (case a => k_is)
      g_MOST_MESSAGES := by
        refine' top_int KX G ?a
        (case a => k_is)
      g_MOST_ROWS := by
        refine' top_int KX G ?a
        (case a => k_is)
      g_MOST_SEEN := by
        refine' top_int KX G ?a
        (case a => k_is)
      g_MOST_SIGNS := by
        refine' top_int KX G ?a
        (case a => k_is)
      k_Broken := ⟨_, e_Broken⟩
      k_InvalidCommand := ⟨_, e_InvalidCommand⟩
      k_InvalidFraction := ⟨_, e_InvalidFraction⟩
      k_InvalidLook := ⟨_, e_InvalidLook⟩
      k_InvalidLooks := ⟨_, e_InvalidLooks⟩
      k_InvalidNumber := ⟨_, e_InvalidNumber⟩
      k_InvalidPlan := ⟨_, e_InvalidPlan⟩
      k_InvalidRow := ⟨_, e_InvalidRow⟩
      k_InvalidRows := ⟨_, e_InvalidRows⟩
      k_InvalidSeen := ⟨_, e_InvalidSeen⟩
      k_InvalidSign := ⟨_, e_InvalidSign⟩
      k_InvalidSigns := ⟨_, e_InvalidSigns⟩
      k_InvalidTable := ⟨_, e_InvalidTable⟩
      k_InvalidText := ⟨_, e_InvalidText⟩
      k_InvalidWish := ⟨_, e_InvalidWish⟩
      k_NotALine := ⟨_, e_NotALine⟩
      k_NotLeft := ⟨_, e_NotLeft⟩
      k_NotPossible := ⟨_, e_NotPossible⟩
      k_NothingToUndo := ⟨_, e_NothingToUndo⟩
      k_TooFew := ⟨_, e_TooFew⟩
      k_TooLong := ⟨_, e_TooLong⟩
      k_TooMany := ⟨_, e_TooMany⟩
      k_UnknownSign := ⟨_, e_UnknownSign⟩
      k_WrongName := ⟨_, e_WrongName⟩
      k_WrongValue := ⟨_, e_WrongValue⟩
      er_NotPossible := by
        refine' top_er0 bx_ArithmeticError KX G ?a ?ei ?kC ?exC ?tyC
        (case a => k_is)
        (case ei => kernel_rfl)
        (case kC => k_is)
        (case exC => k_is)
        (case tyC => k_is)
      er_WrongName := by
        refine' top_er0 bx_LookupError KX G ?a ?ei ?kC ?exC ?tyC
        (case a => k_is)
        (case ei => kernel_rfl)
        (case kC => k_is)
        (case exC => k_is)
        (case tyC => k_is)
      er_WrongValue := by
        refine' top_er0 bx_ValueError KX G ?a ?ei ?kC ?exC ?tyC
        (case a => k_is)
        (case ei => kernel_rfl)
        (case kC => k_is)
        (case exC => k_is)
        (case tyC => k_is)
      er_NothingToUndo := by
        refine' top_er0 bx_ArithmeticError KX G ?a ?ei ?kC ?exC ?tyC
        (case a => k_is)
        (case ei => kernel_rfl)
        (case kC => k_is)
        (case exC => k_is)
        (case tyC => k_is)
      er_InvalidLook := by
        refine' top_errM bx_ValueError KX G ?fo ?a ?ei ?eo ?sa ?ga ?gg ?no ?iC ?tC ?kC ?exC ?tyC ?hd ?l1 ?c1
        (case a => k_is)
        (case fo => decide +kernel)
        (case ei => kernel_rfl)
        (case eo => kernel_rfl)
        (case sa => k_is)
        (case ga => k_is)
        (case gg => k_is)
        (case no => k_is)
        (case iC => k_is)
        (case tC => k_is)
        (case kC => k_is)
        (case exC => k_is)
        (case tyC => k_is)
        (case hd => k_is)
        (case l1 => k_is)
        (case c1 => k_is)
      er_InvalidNumber := by
        refine' top_errM bx_ValueError KX G ?fo ?a ?ei ?eo ?sa ?ga ?gg ?no ?iC ?tC ?kC ?exC ?tyC ?hd ?l1 ?c1
        (case a => k_is)
        (case fo => decide +kernel)
        (case ei => kernel_rfl)
        (case eo => kernel_rfl)
        (case sa => k_is)
        (case ga => k_is)
        (case gg => k_is)
        (case no => k_is)
        (case iC => k_is)
        (case tC => k_is)
        (case kC => k_is)
        (case exC => k_is)
        (case tyC => k_is)
        (case hd => k_is)
        (case l1 => k_is)
        (case c1 => k_is)
      er_InvalidRow := by
        refine' top_errM bx_ValueError KX G ?fo ?a ?ei ?eo ?sa ?ga ?gg ?no ?iC ?tC ?kC ?exC ?tyC ?hd ?l1 ?c1
        (case a => k_is)
        (case fo => decide +kernel)
        (case ei => kernel_rfl)
        (case eo => kernel_rfl)
        (case sa => k_is)
        (case ga => k_is)
        (case gg => k_is)
        (case no => k_is)
        (case iC => k_is)
        (case tC => k_is)
        (case kC => k_is)
        (case exC => k_is)
        (case tyC => k_is)
        (case hd => k_is)
        (case l1 => k_is)
        (case c1 => k_is)
      er_InvalidText := by
        refine' top_errM bx_ValueError KX G ?fo ?a ?ei ?eo ?sa ?ga ?gg ?no ?iC ?tC ?kC ?exC ?tyC ?hd ?l1 ?c1
        (case a => k_is)
        (case fo => decide +kernel)
        (case ei => kernel_rfl)
        (case eo => kernel_rfl)
        (case sa => k_is)
        (case ga => k_is)
        (case gg => k_is)
        (case no => k_is)
        (case iC => k_is)
        (case tC => k_is)
        (case kC => k_is)
        (case exC => k_is)
        (case tyC => k_is)
        (case hd => k_is)
        (case l1 => k_is)
        (case c1 => k_is)
      er_InvalidWish := by
        refine' top_errM bx_ValueError KX G ?fo ?a ?ei ?eo ?sa ?ga ?gg ?no ?iC ?tC ?kC ?exC ?tyC ?hd ?l1 ?c1
        (case a => k_is)
        (case fo => decide +kernel)
        (case ei => kernel_rfl)
        (case eo => kernel_rfl)
        (case sa => k_is)
        (case ga => k_is)
        (case gg => k_is)
        (case no => k_is)
        (case iC => k_is)
        (case tC => k_is)
        (case kC => k_is)
        (case exC => k_is)
        (case tyC => k_is)
        (case hd => k_is)
        (case l1 => k_is)
        (case c1 => k_is)
      er_InvalidFraction := by
        refine' top_errM bx_ValueError KX G ?fo ?a ?ei ?eo ?sa ?ga ?gg ?no ?iC ?tC ?kC ?exC ?tyC ?hd ?l1 ?c1
        (case a => k_is)
        (case fo => decide +kernel)
        (case ei => kernel_rfl)
        (case eo => kernel_rfl)
        (case sa => k_is)
        (case ga => k_is)
        (case gg => k_is)
        (case no => k_is)
        (case iC => k_is)
        (case tC => k_is)
        (case kC => k_is)
        (case exC => k_is)
        (case tyC => k_is)
        (case hd => k_is)
        (case l1 => k_is)
        (case c1 => k_is)
      er_InvalidSign := by
        refine' top_errM bx_ValueError KX G ?fo ?a ?ei ?eo ?sa ?ga ?gg ?no ?iC ?tC ?kC ?exC ?tyC ?hd ?l1 ?c1
        (case a => k_is)
        (case fo => decide +kernel)
        (case ei => kernel_rfl)
        (case eo => kernel_rfl)
        (case sa => k_is)
        (case ga => k_is)
        (case gg => k_is)
        (case no => k_is)
        (case iC => k_is)
        (case tC => k_is)
        (case kC => k_is)
        (case exC => k_is)
        (case tyC => k_is)
        (case hd => k_is)
        (case l1 => k_is)
        (case c1 => k_is)
      er_InvalidLooks := by
        refine' top_errM bx_ValueError KX G ?fo ?a ?ei ?eo ?sa ?ga ?gg ?no ?iC ?tC ?kC ?exC ?tyC ?hd ?l1 ?c1
        (case a => k_is)
        (case fo => decide +kernel)
        (case ei => kernel_rfl)
        (case eo => kernel_rfl)
        (case sa => k_is)
        (case ga => k_is)
        (case gg => k_is)
        (case no => k_is)
        (case iC => k_is)
        (case tC => k_is)
        (case kC => k_is)
        (case exC => k_is)
        (case tyC => k_is)
        (case hd => k_is)
        (case l1 => k_is)
        (case c1 => k_is)
      er_InvalidRows := by
        refine' top_errM bx_ValueError KX G ?fo ?a ?ei ?eo ?sa ?ga ?gg ?no ?iC ?tC ?kC ?exC ?tyC ?hd ?l1 ?c1
        (case a => k_is)
        (case fo => decide +kernel)
        (case ei => kernel_rfl)
        (case eo => kernel_rfl)
        (case sa => k_is)
        (case ga => k_is)
        (case gg => k_is)
        (case no => k_is)
        (case iC => k_is)
        (case tC => k_is)
        (case kC => k_is)
        (case exC => k_is)
        (case tyC => k_is)
        (case hd => k_is)
        (case l1 => k_is)
        (case c1 => k_is)
      er_InvalidSigns := by
        refine' top_errM bx_ValueError KX G ?fo ?a ?ei ?eo ?sa ?ga ?gg ?no ?iC ?tC ?kC ?exC ?tyC ?hd ?l1 ?c1
        (case a => k_is)
        (case fo => decide +kernel)
        (case ei => kernel_rfl)
        (case eo => kernel_rfl)
        (case sa => k_is)
        (case ga => k_is)
        (case gg => k_is)
        (case no => k_is)
        (case iC => k_is)
        (case tC => k_is)
        (case kC => k_is)
        (case exC => k_is)
        (case tyC => k_is)
        (case hd => k_is)
        (case l1 => k_is)
        (case c1 => k_is)
      er_NotALine := by
        refine' top_errM bx_ValueError KX G ?fo ?a ?ei ?eo ?sa ?ga ?gg ?no ?iC ?tC ?kC ?exC ?tyC ?hd ?l1 ?c1
        (case a => k_is)
        (case fo => decide +kernel)
        (case ei => kernel_rfl)
        (case eo => kernel_rfl)
        (case sa => k_is)
        (case ga => k_is)
        (case gg => k_is)
        (case no => k_is)
        (case iC => k_is)
        (case tC => k_is)
        (case kC => k_is)
        (case exC => k_is)
        (case tyC => k_is)
        (case hd => k_is)
        (case l1 => k_is)
        (case c1 => k_is)
      er_InvalidCommand := by
        refine' top_errM bx_ValueError KX G ?fo ?a ?ei ?eo ?sa ?ga ?gg ?no ?iC ?tC ?kC ?exC ?tyC ?hd ?l1 ?c1
        (case a => k_is)
        (case fo => decide +kernel)
        (case ei => kernel_rfl)
        (case eo => kernel_rfl)
        (case sa => k_is)
        (case ga => k_is)
        (case gg => k_is)
        (case no => k_is)
        (case iC => k_is)
        (case tC => k_is)
        (case kC => k_is)
        (case exC => k_is)
        (case tyC => k_is)
        (case hd => k_is)
        (case l1 => k_is)
        (case c1 => k_is)
      er_UnknownSign := by
        refine' top_errM bx_LookupError KX G ?fo ?a ?ei ?eo ?sa ?ga ?gg ?no ?iC ?tC ?kC ?exC ?tyC ?hd ?l1 ?c1
        (case a => k_is)
        (case fo => decide +kernel)
        (case ei => kernel_rfl)
        (case eo => kernel_rfl)
        (case sa => k_is)
        (case ga => k_is)
        (case gg => k_is)
        (case no => k_is)
        (case iC => k_is)
        (case tC => k_is)
        (case kC => k_is)
        (case exC => k_is)
        (case tyC => k_is)
        (case hd => k_is)
        (case l1 => k_is)
        (case c1 => k_is)
      er_InvalidSeen := by
        refine' top_errM bx_ValueError KX G ?fo ?a ?ei ?eo ?sa ?ga ?gg ?no ?iC ?tC ?kC ?exC ?tyC ?hd ?l1 ?c1
        (case a => k_is)
        (case fo => decide +kernel)
        (case ei => kernel_rfl)
        (case eo => kernel_rfl)
        (case sa => k_is)
        (case ga => k_is)
        (case gg => k_is)
        (case no => k_is)
        (case iC => k_is)
        (case tC => k_is)
        (case kC => k_is)
        (case exC => k_is)
        (case tyC => k_is)
        (case hd => k_is)
        (case l1 => k_is)
        (case c1 => k_is)
      er_InvalidPlan := by
        refine' top_errM bx_ValueError KX G ?fo ?a ?ei ?eo ?sa ?ga ?gg ?no ?iC ?tC ?kC ?exC ?tyC ?hd ?l1 ?c1
        (case a => k_is)
        (case fo => decide +kernel)
        (case ei => kernel_rfl)
        (case eo => kernel_rfl)
        (case sa => k_is)
        (case ga => k_is)
        (case gg => k_is)
        (case no => k_is)
        (case iC => k_is)
        (case tC => k_is)
        (case kC => k_is)
        (case exC => k_is)
        (case tyC => k_is)
        (case hd => k_is)
        (case l1 => k_is)
        (case c1 => k_is)
      er_InvalidTable := by
        refine' top_errM bx_ValueError KX G ?fo ?a ?ei ?eo ?sa ?ga ?gg ?no ?iC ?tC ?kC ?exC ?tyC ?hd ?l1 ?c1
        (case a => k_is)
        (case fo => decide +kernel)
        (case ei => kernel_rfl)
        (case eo => kernel_rfl)
        (case sa => k_is)
        (case ga => k_is)
        (case gg => k_is)
        (case no => k_is)
        (case iC => k_is)
        (case tC => k_is)
        (case kC => k_is)
        (case exC => k_is)
        (case tyC => k_is)
        (case hd => k_is)
        (case l1 => k_is)
        (case c1 => k_is)
      er_NotLeft := by
        refine' top_errM bx_ArithmeticError KX G ?fo ?a ?ei ?eo ?sa ?ga ?gg ?no ?iC ?tC ?kC ?exC ?tyC ?hd ?l1 ?c1
        (case a => k_is)
        (case fo => decide +kernel)
        (case ei => kernel_rfl)
        (case eo => kernel_rfl)
        (case sa => k_is)
        (case ga => k_is)
        (case gg => k_is)
        (case no => k_is)
        (case iC => k_is)
        (case tC => k_is)
        (case kC => k_is)
        (case exC => k_is)
        (case tyC => k_is)
        (case hd => k_is)
        (case l1 => k_is)
        (case c1 => k_is)
      er_TooFew := by
        refine' top_errM bx_ArithmeticError KX G ?fo ?a ?ei ?eo ?sa ?ga ?gg ?no ?iC ?tC ?kC ?exC ?tyC ?hd ?l1 ?c1
        (case a => k_is)
        (case fo => decide +kernel)
        (case ei => kernel_rfl)
        (case eo => kernel_rfl)
        (case sa => k_is)
        (case ga => k_is)
        (case gg => k_is)
        (case no => k_is)
        (case iC => k_is)
        (case tC => k_is)
        (case kC => k_is)
        (case exC => k_is)
        (case tyC => k_is)
        (case hd => k_is)
        (case l1 => k_is)
        (case c1 => k_is)
      er_TooMany := by
        refine' top_errM bx_ArithmeticError KX G ?fo ?a ?ei ?eo ?sa ?ga ?gg ?no ?iC ?tC ?kC ?exC ?tyC ?hd ?l1 ?c1
        (case a => k_is)
        (case fo => decide +kernel)
        (case ei => kernel_rfl)
        (case eo => kernel_rfl)
        (case sa => k_is)
        (case ga => k_is)
        (case gg => k_is)
        (case no => k_is)
        (case iC => k_is)
        (case tC => k_is)
        (case kC => k_is)
        (case exC => k_is)
        (case tyC => k_is)
        (case hd => k_is)
        (case l1 => k_is)
        (case c1 => k_is)
      er_TooLong := by
        refine' top_errM bx_ArithmeticError KX G ?fo ?a ?ei ?eo ?sa ?ga ?gg ?no ?iC ?tC ?kC ?exC ?tyC ?hd ?l1 ?c1
        (case a => k_is)
        (case fo => decide +kernel)
        (case ei => kernel_rfl)
        (case eo => kernel_rfl)
        (case sa => k_is)
        (case ga => k_is)
        (case gg => k_is)
        (case no => k_is)
        (case iC => k_is)
        (case tC => k_is)
        (case kC => k_is)
        (case exC => k_is)
        (case tyC => k_is)
        (case hd => k_is)
        (case l1 => k_is)
        (case c1 => k_is)
      er_Broken := by
        refine' top_errM bx_ArithmeticError KX G ?fo ?a ?ei ?eo ?sa ?ga ?gg ?no ?iC ?tC ?kC ?exC ?tyC ?hd ?l1 ?c1
        (case a => k_is)
        (case fo => decide +kernel)
        (case ei => kernel_rfl)
        (case eo => kernel_rfl)
        (case sa => k_is)
        (case ga => k_is)
        (case gg => k_is)
        (case no => k_is)
        (case iC => k_is)
        (case tC => k_is)
        (case kC => k_is)
        (case exC => k_is)
        (case tyC => k_is)
        (case hd => k_is)
        (case l1 => k_is)
        (case c1 => k_is)
      ext := by
        refine' top_ext A ?sp ?tk ?xq
        (case sp => k_is)
        (case tk => k_is)
        (case xq => kernel_rfl)
      tf_bases := by
        refine' top_fn KX G ?a ?l ?c ?k
        (case a => k_is)
        (case l => k_is)
        (case c => k_is)
        (case k => k_is)
      tf_jar := by
        refine' top_fn KX G ?a ?l ?c ?k
        (case a => k_is)
        (case l => k_is)
        (case c => k_is)
        (case k => k_is)
      tf_sorts := by
        refine' top_fn KX G ?a ?l ?c ?k
        (case a => k_is)
        (case l => k_is)
        (case c => k_is)
        (case k => k_is)
      tf_kept := by
        refine' top_fn KX G ?a ?l ?c ?k
        (case a => k_is)
        (case l => k_is)
        (case c => k_is)
        (case k => k_is)
      tf_dip := by
        refine' top_fn KX G ?a ?l ?c ?k
        (case a => k_is)
        (case l => k_is)
        (case c => k_is)
        (case k => k_is)
      tf_by_word := by
        refine' top_fn KX G ?a ?l ?c ?k
        (case a => k_is)
        (case l => k_is)
        (case c => k_is)
        (case k => k_is)
      tf_by_place := by
        refine' top_fn KX G ?a ?l ?c ?k
        (case a => k_is)
        (case l => k_is)
        (case c => k_is)
        (case k => k_is)
      tf_pick := by
        refine' top_fn KX G ?a ?l ?c ?k
        (case a => k_is)
        (case l => k_is)
        (case c => k_is)
        (case k => k_is)
      tf_odd := by
        refine' top_fn KX G ?a ?l ?c ?k
        (case a => k_is)
        (case l => k_is)
        (case c => k_is)
        (case k => k_is)
      tf_right := by
        refine' top_fn KX G ?a ?l ?c ?k
        (case a => k_is)
        (case l => k_is)
        (case c => k_is)
        (case k => k_is)
      tf_law := by
        refine' top_fn KX G ?a ?l ?c ?k
        (case a => k_is)
        (case l => k_is)
        (case c => k_is)
        (case k => k_is)
    }
